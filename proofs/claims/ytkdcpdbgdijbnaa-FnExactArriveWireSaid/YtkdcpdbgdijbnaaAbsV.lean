/- What is proved: the calculus of abstract states: an object may be given another number.
   Conditions: none beyond those that each lemma names. -/
import Derived.Test.YtkdcpdbgdijbnaaAbsK
namespace Go.Proofs.Ytkdcpdbgdijbnaa.Ab
open Go.RowKit
section
variable {P : Program} {B : Nat → Prop} {W : En} {st : St}
/-- What a slot holds gets another number; whatever else named it by the old one is of no use from then on. -/
theorem Ghost.rename {o ep s j ej : Nat} {fl : Bool} {e : TypeId} {els : List (List T)} (hl : look st.objs o = some (ep, .row fl true e els)) (hx : lookT st.tmps s = .hnd o ep) (hne : Nat.beq j o = false) (hej : nep (look st.objs j) = ej) :
    Ghost P B W st ⟨st.n, (s, .hnd j ej) :: st.tmps, (j, ej, .row fl true e els) :: (o, ep + 1, .gone) :: st.objs⟩ := fun a w ⟨pl, F, hs⟩ => by
  have hjo : j ≠ o := Nat.ne_of_beq_eq_false hne
  subst hej
  have hlo : look ((j, nep (look st.objs j), .row fl true e els) :: (o, ep + 1, .gone) :: st.objs) o = some (ep + 1, .gone) := by rw [look_cons, if_neg hjo, look_cons, if_pos rfl]
  have hlj : look ((j, nep (look st.objs j), .row fl true e els) :: (o, ep + 1, .gone) :: st.objs) j = some (nep (look st.objs j), .row fl true e els) := by rw [look_cons, if_pos rfl]
  have hOw : Ow P w (.lst fl e els) (pl o) (F o) := by
    rcases hs.objs o _ _ hl with ⟨_, h5⟩ | ⟨h5, _⟩
    · exact h5
    · cases h5
  obtain ⟨pl', F', h5, hp, _, g, _⟩ := hs.many (w' := w) (objs' := (j, nep (look st.objs j), .row fl true e els) :: (o, ep + 1, .gone) :: st.objs) (nv := fun _ => pl o) (nF := fun k b => k = j ∧ F o b) (Nw := fun k => k = o ∨ k = j)
    (Kp.refl _ _) (fun _ _ _ => rfl)
    (fun k hk => by rw [look_cons, if_neg fun e => hk (.inr e.symm), look_cons, if_neg fun e => hk (.inl e.symm)])
    (fun k hk => by
      rcases hk with hk | hk
      · subst hk
        refine ⟨ep + 1, _, hlo, fun ep0 ob0' h0 => .inl ?_, fun h0 => (by rw [hl] at h0; cases h0)⟩
        rw [hl] at h0
        cases h0
        exact Nat.lt_succ_self _
      · subst hk
        exact ⟨_, _, hlj, fun ep0 ob0' h0 => .inl (nep_lt h0), fun _ => nep_pos _⟩)
    (fun k b hk hf => ⟨(hs.range _ _ _ hl hf.2).2, .inr ⟨o, _, .inl rfl, hl, hf.2⟩⟩)
    (fun k k' b hk hk' hne' h h' => hne' (h.1.trans h'.1.symm))
    (fun lk' pl' Fr' hFr hlp k e' b hk hlk => by
      rcases hk with hk | hk
      · subst hk
        rw [hlo] at hlk
        cases hlk
        exact fun _ h => hjo h.1.symm
      · subst hk
        rw [hlj] at hlk
        cases hlk
        refine .inl ⟨rfl, ?_⟩
        have e1 : (fun b => k = k ∧ F o b) = F o := by funext b; simp
        show Ow P w _ (pl o) (fun b => k = k ∧ F o b)
        rw [e1]
        exact hOw)
  refine ⟨pl', F', { h5 with tmps := fun i hi => ?_ }⟩
  show C2 P w _ _ _ (lookT ((s, .hnd j (nep (look st.objs j))) :: st.tmps) i) _
  rw [lookT_cons]
  split
  · rename_i e
    subst e
    have h6 := hs.tmps _ hi
    rw [hx] at h6
    obtain ⟨h7, e0, ob0, h8, h9, h10⟩ : C0 P w (look st.objs) pl (Free B W.o (look st.objs) F w) (.hnd o ep) (a.tmps.getD s undef) := h6
    rw [hl] at h8
    cases h8
    obtain ⟨_, h11⟩ := h10 rfl
    exact ⟨h7, _, _, hlj, Nat.le_refl _, fun _ => ⟨rfl, h11.trans (hp j (.inr rfl)).symm⟩⟩
  · exact h5.tmps i hi
end
end Go.Proofs.Ytkdcpdbgdijbnaa.Ab
