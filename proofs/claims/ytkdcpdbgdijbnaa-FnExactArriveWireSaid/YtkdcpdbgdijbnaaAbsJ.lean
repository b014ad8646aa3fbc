/- What is proved: the calculus of abstract states: a nil slice is an empty list of one's own.
   Conditions: none beyond those that each lemma names. -/
import Derived.Test.YtkdcpdbgdijbnaaAbs6
namespace Go.Proofs.Ytkdcpdbgdijbnaa.Ab
open Go.RowKit
section
variable {P : Program} {B : Nat → Prop} {W : En} {st : St} {a : Act} {w : World}
theorem ow_none {fl : Bool} {e : TypeId} : Ow P w (.lst fl e []) (.slice none 0 0) (fun _ => False) :=
  .lst [] (fun _ _ => False) (OwnsR.nil w e (P.cellsOf e)) (by simp) (by simp) rfl (fun k x v h => by simp at h) (fun _ _ _ _ h => h.elim) (fun _ _ h => h.elim) (fun b => ⟨fun h => h.elim, fun h => by
    rcases h with h | ⟨_, h⟩
    · simp [Value.ownBlock] at h
    · exact h⟩)
theorem SimW.newnil {pl : Nat → Value} {F : Nat → Nat → Prop} (h : SimW P B W st a w pl F) (i : Nat) (fl : Bool) (e : TypeId) :
    ∃ pl' F', SimW P B W { st with objs := (i, nep (look st.objs i), .row fl true e []) :: st.objs } a w pl' F' ∧ pl' i = .slice none 0 0 := by
  obtain ⟨pl', F', h1, h2, _, _, _⟩ := h.news (w' := w) (objs' := (i, nep (look st.objs i), .row fl true e []) :: st.objs) (nv := fun _ => .slice none 0 0) (nF := fun _ _ => False) (Nw := (· = i)) (Below.refl _ _)
    (fun j hj => by rw [look_cons, if_neg (Ne.symm hj)])
    (fun j hj => by subst hj; exact ⟨_, _, by rw [look_cons, if_pos rfl], fun ep0 ob0 h0 => nep_lt h0, nep_pos _⟩)
    (fun _ _ _ hf => hf.elim) (fun _ _ _ _ _ _ hf => hf.elim)
    (fun j ep ob hj ho CC Rr => by
      subst hj
      rw [look_cons, if_pos rfl] at ho
      cases ho
      exact .inl ⟨rfl, ow_none⟩)
  exact ⟨pl', F', h1, h2 i rfl⟩
theorem rd_nil {Fr : Nat → Prop} {u : Value} (h : Rd P w Fr .nil u) : u = .slice none 0 0 := by cases h; rfl
theorem Sim.nilrow (hs : Sim P B W st a w) {s i ep : Nat} (fl : Bool) (e : TypeId) (hx : lookT st.tmps s = .t .nil) (hep : nep (look st.objs i) = ep) :
    Sim P B W ⟨st.n, (s, .hnd i ep) :: st.tmps, (i, ep, .row fl true e []) :: st.objs⟩ a w := by
  obtain ⟨pl, F, h⟩ := hs
  subst hep
  obtain ⟨pl', F', h', hp⟩ := h.newnil i fl e
  refine ⟨pl', F', h'.old, h'.size, h'.defers, h'.below, fun j hj => ?_, h'.objs, h'.range, h'.apart, h'.hist⟩
  show C2 P w _ pl' _ (lookT ((s, .hnd i (nep (look st.objs i))) :: st.tmps) j) _
  rw [lookT_cons]
  split
  · rename_i hsj
    subst hsj
    have h1 := h.tmps s hj
    rw [hx] at h1
    have h2 := rd_nil h1
    refine ⟨by rw [h2]; rfl, _, _, by rw [look_cons, if_pos rfl], Nat.le_refl _, fun _ => ⟨rfl, by rw [h2, hp]⟩⟩
  · exact h'.tmps j hj
theorem aW.nilrow {c : Code} {Q : Exit → St → Prop} {s i ep : Nat} (fl : Bool) (e : TypeId) (hx : lookT st.tmps s = .t .nil) (hep : nep (look st.objs i) = ep) (hK : aW P B W c Q ⟨st.n, (s, .hnd i ep) :: st.tmps, (i, ep, .row fl true e []) :: st.objs⟩) : aW P B W c Q st :=
  fun a w hs => hK a w (hs.nilrow fl e hx hep)
/-- A box's cell that holds nil: so too. -/
theorem SimW.recell {pl : Nat → Value} {F : Nat → Nat → Prop} (h : SimW P B W st a w pl F) {o i ep epo k : Nat} {ty : TypeId} {cs : List V} {fl : Bool} {e : TypeId} (ho : look st.objs o = some (epo, .box ty cs)) (hk : cs[k]? = some (.t .nil))
    (hi : look st.objs i = some (ep, .row fl true e [])) (hp : pl i = .slice none 0 0) (hne : i ≠ o) :
    SimW P B W { st with objs := (o, epo, .box ty (cs.set k (.hnd i ep))) :: st.objs } a w pl F := by
  have hlk : ∀ j, j ≠ o → look ((o, epo, Ob.box ty (cs.set k (.hnd i ep))) :: st.objs) j = look st.objs j := fun j hj => by rw [look_cons, if_neg (Ne.symm hj)]
  have hlo : look ((o, epo, Ob.box ty (cs.set k (.hnd i ep))) :: st.objs) o = some (epo, .box ty (cs.set k (.hnd i ep))) := by rw [look_cons, if_pos rfl]
  have hsome : ∀ j x, look ((o, epo, Ob.box ty (cs.set k (.hnd i ep))) :: st.objs) j = some x → ∃ y, look st.objs j = some y ∧ y.1 = x.1 ∧ (j ≠ o → y = x) := fun j x hj => by
    by_cases hjo : j = o
    · subst hjo
      rw [hlo] at hj
      cases hj
      exact ⟨_, ho, rfl, fun h => absurd rfl h⟩
    · rw [hlk j hjo] at hj
      exact ⟨x, hj, rfl, fun _ => rfl⟩
  have hfr : ∀ b, Free B W.o (look st.objs) F w b → Free B W.o (look ((o, epo, Ob.box ty (cs.set k (.hnd i ep))) :: st.objs)) F w b := fun b hb => ⟨hb.1, hb.2.1, fun j x hj => by
    obtain ⟨y, hy, _⟩ := hsome j x hj
    exact hb.2.2 j y hy⟩
  have g : Goes P w w (look st.objs) (look ((o, epo, Ob.box ty (cs.set k (.hnd i ep))) :: st.objs)) pl pl (Free B W.o (look st.objs) F w) (Free B W.o (look ((o, epo, Ob.box ty (cs.set k (.hnd i ep))) :: st.objs)) F w) :=
    ⟨hfr, fun _ _ => rfl, fun j ep0 ob0 hj => by
      by_cases hjo : j = o
      · subst hjo
        rw [ho] at hj
        cases hj
        exact ⟨_, _, hlo, .inr ⟨rfl, rfl, rfl, rfl⟩⟩
      · exact ⟨ep0, ob0, (hlk j hjo).trans hj, .inr ⟨rfl, rfl, rfl, rfl⟩⟩⟩
  refine ⟨h.old, h.size, h.defers, h.below, fun j hj => (h.tmps j hj).goes g, fun j ep0 ob0 hj => ?_, fun j x b hj hf => ?_, fun j j' x x' b hne hj hj' => ?_, fun j ob0 h0 ep0 ob hj => ?_⟩
  · by_cases hjo : j = o
    · subst hjo
      have hj' : look ((j, epo, Ob.box ty (cs.set k (.hnd i ep))) :: st.objs) j = some (ep0, ob0) := hj
      rw [hlo] at hj'
      cases hj'
      obtain ⟨gb, us, h1, h2, h3, h4, h5⟩ := h.objs j _ _ ho
      refine ⟨gb, us, h1, h2, h3, by simpa using h4, fun q x u hx hu => ?_⟩
      by_cases hq : k = q
      · subst hq
        have hkl := (List.getElem?_eq_some_iff.1 hk).1
        rw [List.getElem?_set_self hkl] at hx
        cases hx
        have h6 := rd_nil (h5 k _ u hk hu)
        exact ⟨by rw [h6]; rfl, ep, _, (hlk i hne).trans hi, Nat.le_refl _, fun _ => ⟨rfl, by rw [h6, hp]⟩⟩
      · rw [List.getElem?_set_ne hq] at hx
        exact C0.goes g (h5 q x u hx hu)
    · have hj' : look ((o, epo, Ob.box ty (cs.set k (.hnd i ep))) :: st.objs) j = some (ep0, ob0) := hj
      rw [hlk j hjo] at hj'
      exact (h.objs j ep0 ob0 hj').goes (fun _ _ => rfl) (fun _ _ hc => C0.goes g hc) (fun _ _ hr => hr.mono g.more g.heap)
  · obtain ⟨y, hy, _⟩ := hsome j x hj
    exact h.range j y b hy hf
  · obtain ⟨y, hy, _⟩ := hsome j x hj
    obtain ⟨y', hy', _⟩ := hsome j' x' hj'
    exact h.apart j j' y y' b hne hy hy'
  · by_cases hjo : j = o
    · subst hjo
      have hj' : look ((j, epo, Ob.box ty (cs.set k (.hnd i ep))) :: st.objs) j = some (ep0, ob) := hj
      rw [hlo] at hj'
      cases hj'
      rcases h.hist j ob0 h0 _ _ ho with h5 | ⟨h5, h6, h7⟩
      · exact .inl h5
      · exact .inr ⟨h5, h6, h7⟩
    · have hj' : look ((o, epo, Ob.box ty (cs.set k (.hnd i ep))) :: st.objs) j = some (ep0, ob) := hj
      rw [hlk j hjo] at hj'
      exact h.hist j ob0 h0 _ _ hj'
theorem aW.nilcell {c : Code} {Q : Exit → St → Prop} {o i ep epo k : Nat} {ty : TypeId} {cs cs' : List V} (fl : Bool) (e : TypeId) (ho : look st.objs o = some (epo, .box ty cs)) (hk : cs[k]? = some (.t .nil)) (hne : Nat.beq i o = false) (hep : nep (look st.objs i) = ep) (hcs : cs.set k (.hnd i ep) = cs')
    (hK : aW P B W c Q ⟨st.n, st.tmps, (o, epo, .box ty cs') :: (i, ep, .row fl true e []) :: st.objs⟩) : aW P B W c Q st := fun a w hs => by
  obtain ⟨pl, F, h⟩ := hs
  subst hep hcs
  have hne := Nat.ne_of_beq_eq_false hne
  obtain ⟨pl', F', h', hp⟩ := h.newnil i fl e
  exact hK a w ⟨pl', F', h'.recell (o := o) (i := i) (k := k) (by show look ((i, _, _) :: st.objs) o = _; rw [look_cons, if_neg hne]; exact ho) hk (by show look ((i, _, _) :: st.objs) i = _; rw [look_cons, if_pos rfl]) hp hne⟩
variable {ops : Array Oper} {o : Oper} {KE : V → List (Nat × Nat × Ob) → Prop}
/-! ### Pointers that are not nil -/
theorem exec_nilCheck {x : Operand} {a : Act} {ad : Addr} (ho : o.op = .nilCheck x) (hx : a.eval x = .pointer (some ad)) : (execOp a.eval o).run P w = .ok (.value (.pointer (some ad))) w := by
  unfold execOp
  rw [ho]
  simp [hx]
theorem OpS.nilCheck {x : Operand} {i ep k off : Nat} (ho : o.op = .nilCheck x) (hx : st.ev x = .ptr i ep k off) {e : Nat} {ob : Ob} (hl : look st.objs i = some (e, ob)) (he : e = ep) (hK : KE (.ptr i ep k off) []) : OpS P B W o st KE :=
  OpS.pure_ hK fun a w pl F hs => by
    have h1 := hs.ev x
    rw [hx] at h1
    have h1' := h1
    obtain ⟨_, ep', ob', h2, h3, h4⟩ : C0 P w (look st.objs) pl (Free B W.o (look st.objs) F w) (.ptr i ep k off) (a.eval x) := h1
    rw [hl] at h2
    cases h2
    obtain ⟨g, bb, hg, hu⟩ := h4 he.symm
    refine ⟨_, exec_nilCheck ho hu, ?_⟩
    rw [← hu]
    exact h1'
end
end Go.Proofs.Ytkdcpdbgdijbnaa.Ab
