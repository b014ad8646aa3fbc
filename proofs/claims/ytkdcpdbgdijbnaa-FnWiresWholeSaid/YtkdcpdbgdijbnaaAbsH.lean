/- What is proved: the calculus of abstract states: one cell of a row that owns lists is taken out of it, and put back.
   Conditions: none beyond those that each lemma names. -/
import Derived.Test.YtkdcpdbgdijbnaaAbsO
import Derived.Test.YtkdcpdbgdijbnaaAbsG
namespace Go.Proofs.Ytkdcpdbgdijbnaa.Ab
open Go.RowKit

section
variable {P : Program} {B : Nat → Prop} {W : En} {st : St} {a : Act} {w : World} {Q : Exit → St → Prop}
/-- A step that no code takes. -/
def Ghost (P : Program) (B : Nat → Prop) (W : En) (st st' : St) : Prop := ∀ a w, Sim P B W st a w → Sim P B W st' a w
end
section
variable {P : Program} {B : Nat → Prop} {W : En} {o : Oper} {os : List Nat} {st : St} {KE : V → List (Nat × Nat × Ob) → Prop}
theorem OpQ.len_hole {x : Operand} {t : TypeId} {c : Call} {i ep q : Nat} {z : V} {e' : Nat} {els : List (List T)} {e es eb : Nat} {y : Ty} (ho : o.op = .call c) (h1 : c.callee = .builtin .len) (h2 : c.args = #[x]) (h3 : c.argTypes = #[t]) (hy : tinfo P t = some y) (hk : y.k = .slice e es eb) (hx : st.ev x = .hnd i ep) (hl : look st.objs i = some (ep, .hole e' els q z)) {m : Nat} (hm : els.length = m) (hK : KE (.t (.int .i64 m)) []) : OpQ P B W o os st KE :=
  OpQ.pure_ hK fun a w pl F hs => by
    subst hm
    have h4 := hs.ev x
    rw [hx] at h4
    obtain ⟨_, ep', ob, h5, h6, h7⟩ : C0 P w (look st.objs) pl (Free B W.o (look st.objs) F w) (.hnd i ep) (a.eval x) := h4
    rw [hl] at h5
    cases h5
    obtain ⟨us, fs, s1, s2, s3, s4, s5, s6, s7, s8, s9⟩ := hs.objs i _ _ hl
    obtain ⟨A, cc, g2, g3, g4, _⟩ := ownsRow_slice s1
    exact ⟨_, fun _ => exec_len ho h1 h2 h3 hy hk ((h7 rfl).2.trans g2), Rd.int (wf_len (Nat.le_trans g3 g4))⟩
theorem OpQ.index_hole {t : TypeId} {x ix : Operand} {i ep q : Nat} {z : V} {els : List (List T)} {n : Int} {k : IntKind} {e es eb e' m : Nat} {y : Ty} (ho : o.op = .indexAddr t x ix) (hx : st.ev x = .hnd i ep) (hl : look st.objs i = some (ep, .hole e' els q z)) (hi : st.ev ix = .t (.int k n)) (hy : tinfo P t = some y) (hk : y.k = .slice e es eb) (hes : es ≠ 0) (he : e' = e)
    (hm : n = (m : Int)) (hlt : m < els.length) (hK : KE (.ptr i ep m 0) []) : OpQ P B W o os st KE :=
  OpQ.pure_ hK fun a w pl F hs => by
    subst he hm
    have h4 := hs.ev x
    rw [hx] at h4
    obtain ⟨_, ep', ob, h5, h6, h7⟩ : C0 P w (look st.objs) pl (Free B W.o (look st.objs) F w) (.hnd i ep) (a.eval x) := h4
    rw [hl] at h5
    cases h5
    obtain ⟨us, fs, s1, s2, s3, s4, s5, s6, s7, s8, s9⟩ := hs.objs i _ _ hl
    obtain ⟨A, c, g2, g3, g4, g5⟩ := ownsRow_slice s1
    have hes' : P.cellsOf e' = es := (slice_t hy hk).2.1
    obtain ⟨g, off, rfl, g6, g7, g8⟩ := g5 fun e => by rw [e] at s9; simp at s9
    refine ⟨_, fun _ => exec_indexAddr ho hy hk hes ((h7 rfl).2.trans g2) (hs.int_at hi).1 (by omega), rfl, _, _, hl, Nat.le_refl _, fun _ => ⟨g, off, g7, ?_⟩⟩
    rw [add_lit0, Int.toNat_natCast]
    simp [esz, hes']
theorem OpS.len_hole {x : Operand} {t : TypeId} {c : Call} {i ep q : Nat} {z : V} {e' : Nat} {els : List (List T)} {e es eb : Nat} {y : Ty} (ho : o.op = .call c) (h1 : c.callee = .builtin .len) (h2 : c.args = #[x]) (h3 : c.argTypes = #[t]) (hy : tinfo P t = some y) (hk : y.k = .slice e es eb) (hx : st.ev x = .hnd i ep) (hl : look st.objs i = some (ep, .hole e' els q z)) {m : Nat} (hm : els.length = m) (hK : KE (.t (.int .i64 m)) []) : OpS P B W o st KE := (OpQ.len_hole ho h1 h2 h3 hy hk hx hl hm hK).s
theorem OpS.index_hole {t : TypeId} {x ix : Operand} {i ep q : Nat} {z : V} {els : List (List T)} {n : Int} {k : IntKind} {e es eb e' m : Nat} {y : Ty} (ho : o.op = .indexAddr t x ix) (hx : st.ev x = .hnd i ep) (hl : look st.objs i = some (ep, .hole e' els q z)) (hi : st.ev ix = .t (.int k n)) (hy : tinfo P t = some y) (hk : y.k = .slice e es eb) (hes : es ≠ 0) (he : e' = e)
    (hm : n = (m : Int)) (hlt : m < els.length) (hK : KE (.ptr i ep m 0) []) : OpS P B W o st KE := (OpQ.index_hole ho hx hl hi hy hk hes he hm hlt hK).s
/-- The cell that was taken out is loaded. -/
theorem OpS.load_hole {ty : TypeId} {x : Operand} {i ep n off q : Nat} {z : V} {e : TypeId} {els : List (List T)} {y : Ty} {v : V} {s : Nat} (ho : o.op = .load ty x) (hx : st.ev x = .ptr i ep n off) (hl : look st.objs i = some (ep, .hole e els q z)) (hy : tinfo P ty = some y) {ye : Ty} (hye : tinfo P e = some ye) (hs : ye.size = s) (hq : q = n * s + off) (hsz : y.size = 1)
    (hv : (if y.k.agg then V.agg [z] else z) = v) (hK : KE v []) : OpS P B W o st KE :=
  OpS.pure_ hK fun a w pl F h => by
    have hes : P.cellsOf e = s := by rw [cellsOf_t hye, hs]
    have h4 := h.ev x
    rw [hx] at h4
    obtain ⟨_, ep', ob, h5, h6, h7⟩ : C0 P w (look st.objs) pl (Free B W.o (look st.objs) F w) (.ptr i ep n off) (a.eval x) := h4
    rw [hl] at h5
    cases h5
    obtain ⟨g, bb, hg, hu⟩ := h7 rfl
    obtain ⟨us, fs, s1, s2, s3, s4, s5, s6, s7, s8, s9⟩ := h.objs i _ _ hl
    obtain ⟨A, c, g2, g3, g4, g5⟩ := ownsRow_slice s1
    obtain ⟨g', off', rfl, g6, g7, g8⟩ := g5 fun e => by rw [e] at s9; simp at s9
    rw [g7] at hg
    cases hg
    have hcell := g8 q _ (List.getElem?_eq_getElem s9)
    have hadr : bb + (n * esz P (.hole e els q z) + off) = bb + q := by simp only [esz, hes, hq]
    rw [hadr] at hu
    have hc := s5 _ (List.getElem?_eq_getElem s9)
    obtain ⟨u, k1, k2⟩ := run_loadVar_t hy (cs := [z]) (off := 0) (v := v) (by unfold loadV; subst hv; cases y.k.agg <;> simp [hsz]) ⟨g, bb + q, none⟩ (lk := look st.objs) (pl := pl) (Fr := Free B W.o (look st.objs) F w) (w := w) fun j zz hz => by
      cases j with
      | zero =>
        simp at hz
        subst hz
        exact ⟨_, by simpa [Addr.add] using hcell, hc⟩
      | succ j => simp at hz
    exact ⟨u, exec_load ho hu k1, k2⟩
end
end Go.Proofs.Ytkdcpdbgdijbnaa.Ab
