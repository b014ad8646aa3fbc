/- What is proved: the calculus of abstract states: a nil slice is an empty list of one's own.
   Conditions: none beyond those that each lemma names. -/
import Derived.Test.YtkdcpdbgdijbnaaAbs6
namespace Go.Proofs.Ytkdcpdbgdijbnaa.Ab
open Go.RowKit
section
variable {P : Program} {B : Nat → Prop} {W : En} {st : St} {a : Act} {w : World}
theorem ow_none {fl : Bool} {e : TypeId} : Ow P w (.lst fl e []) (.slice none 0 0) (fun _ => False) :=
  .lst [] (fun _ _ => False) (OwnsR.nil w e (P.cellsOf e)) (by simp) (by simp) rfl (fun k x v h => by simp at h) (fun _ _ _ _ h => h.elim) (fun _ _ h => h.elim) (fun b => ⟨fun h => h.elim, fun h => by
    rcases h with h | ⟨_, h⟩
    · simp [Value.ownBlock] at h
    · exact h⟩)
theorem SimW.newnil {pl : Nat → Value} {F : Nat → Nat → Prop} (h : SimW P B W st a w pl F) (i : Nat) (fl : Bool) (e : TypeId) :
    ∃ pl' F', SimW P B W { st with objs := (i, nep (look st.objs i), .row fl true e []) :: st.objs } a w pl' F' ∧ pl' i = .slice none 0 0 := by
  obtain ⟨pl', F', h1, h2, _, _, _⟩ := h.news (w' := w) (objs' := (i, nep (look st.objs i), .row fl true e []) :: st.objs) (nv := fun _ => .slice none 0 0) (nF := fun _ _ => False) (Nw := (· = i)) (Below.refl _ _)
    (fun j hj => by rw [look_cons, if_neg (Ne.symm hj)])
    (fun j hj => by subst hj; exact ⟨_, _, by rw [look_cons, if_pos rfl], fun ep0 ob0 h0 => nep_lt h0, nep_pos _⟩)
    (fun _ _ _ hf => hf.elim) (fun _ _ _ _ _ _ hf => hf.elim)
    (fun j ep ob hj ho CC Rr => by
      subst hj
      rw [look_cons, if_pos rfl] at ho
      cases ho
      exact .inl ⟨rfl, ow_none⟩)
  exact ⟨pl', F', h1, h2 i rfl⟩
theorem rd_nil {Fr : Nat → Prop} {u : Value} (h : Rd P w Fr .nil u) : u = .slice none 0 0 := by cases h; rfl
theorem Sim.nilrow (hs : Sim P B W st a w) {s i ep : Nat} (fl : Bool) (e : TypeId) (hx : lookT st.tmps s = .t .nil) (hep : nep (look st.objs i) = ep) :
    Sim P B W ⟨st.n, (s, .hnd i ep) :: st.tmps, (i, ep, .row fl true e []) :: st.objs⟩ a w := by
  obtain ⟨pl, F, h⟩ := hs
  subst hep
  obtain ⟨pl', F', h', hp⟩ := h.newnil i fl e
  refine ⟨pl', F', h'.old, h'.size, h'.defers, h'.below, fun j hj => ?_, h'.objs, h'.range, h'.apart, h'.hist⟩
  show C2 P w _ pl' _ (lookT ((s, .hnd i (nep (look st.objs i))) :: st.tmps) j) _
  rw [lookT_cons]
  split
  · rename_i hsj
    subst hsj
    have h1 := h.tmps s hj
    rw [hx] at h1
    have h2 := rd_nil h1
    refine ⟨by rw [h2]; rfl, _, _, by rw [look_cons, if_pos rfl], Nat.le_refl _, fun _ => ⟨rfl, by rw [h2, hp]⟩⟩
  · exact h'.tmps j hj
theorem aW.nilrow {c : Code} {Q : Exit → St → Prop} {s i ep : Nat} (fl : Bool) (e : TypeId) (hx : lookT st.tmps s = .t .nil) (hep : nep (look st.objs i) = ep) (hK : aW P B W c Q ⟨st.n, (s, .hnd i ep) :: st.tmps, (i, ep, .row fl true e []) :: st.objs⟩) : aW P B W c Q st :=
  fun a w hs => hK a w (hs.nilrow fl e hx hep)
variable {ops : Array Oper} {o : Oper} {KE : V → List (Nat × Nat × Ob) → Prop}
/-! ### Pointers that are not nil -/
theorem exec_nilCheck {x : Operand} {a : Act} {ad : Addr} (ho : o.op = .nilCheck x) (hx : a.eval x = .pointer (some ad)) : (execOp a.eval o).run P w = .ok (.value (.pointer (some ad))) w := by
  unfold execOp
  rw [ho]
  simp [hx]
theorem OpS.nilCheck {x : Operand} {i ep k off : Nat} (ho : o.op = .nilCheck x) (hx : st.ev x = .ptr i ep k off) {e : Nat} {ob : Ob} (hl : look st.objs i = some (e, ob)) (he : e = ep) (hK : KE (.ptr i ep k off) []) : OpS P B W o st KE :=
  OpS.pure_ hK fun a w pl F hs => by
    have h1 := hs.ev x
    rw [hx] at h1
    have h1' := h1
    obtain ⟨_, ep', ob', h2, h3, h4⟩ : C0 P w (look st.objs) pl (Free B W.o (look st.objs) F w) (.ptr i ep k off) (a.eval x) := h1
    rw [hl] at h2
    cases h2
    obtain ⟨g, bb, hg, hu⟩ := h4 he.symm
    refine ⟨_, exec_nilCheck ho hu, ?_⟩
    rw [← hu]
    exact h1'
end
end Go.Proofs.Ytkdcpdbgdijbnaa.Ab
