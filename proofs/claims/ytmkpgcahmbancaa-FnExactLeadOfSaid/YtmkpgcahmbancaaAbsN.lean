/- What is proved: the calculus of abstract states: calls of functions that change what is handed over to them.
   Conditions: none beyond those that each lemma names. -/
import Derived.Test.YtmkpgcahmbancaaAbsM
namespace Go.Proofs.Ytmkpgcahmbancaa.Ab
set_option linter.unusedSimpArgs false
set_option linter.unusedVariables false
open Go.RowKit

/-- Several objects change or come into being at once. -/
theorem SimW.many {P : Program} {B : Nat → Prop} {W : En} {st : St} {a : Act} {w w' : World} {pl : Nat → Value} {F : Nat → Nat → Prop} (h : SimW P B W st a w pl F) {objs' : List (Nat × Nat × Ob)} {nv : Nat → Value} {nF : Nat → Nat → Prop} {Nw : Nat → Prop}
    (hw : Kp W w w') (hk : ∀ b, b < w.heap.size → (∀ i x, Nw i → look st.objs i = some x → ¬ F i b) → w'.heap[b]? = w.heap[b]?) (hl : ∀ i, ¬ Nw i → look objs' i = look st.objs i)
    (hn : ∀ i, Nw i → ∃ ep ob, look objs' i = some (ep, ob) ∧ (∀ ep0 ob0, look st.objs i = some (ep0, ob0) → ep0 < ep ∨ (ep0 = ep ∧ nv i = pl i ∧ ob.isRow = ob0.isRow ∧ esz P ob = esz P ob0)) ∧ (look st.objs i = none → 0 < ep))
    (hF : ∀ i b, Nw i → nF i b → b < w'.heap.size ∧ (w.heap.size ≤ b ∨ ∃ j x, Nw j ∧ look st.objs j = some x ∧ F j b)) (hd : ∀ i j b, Nw i → Nw j → i ≠ j → nF i b → ¬ nF j b)
    (hob : ∀ lk' pl' Fr', (∀ b, (Free B W.o (look st.objs) F w b ∨ w.heap.size ≤ b ∨ ∃ j x, Nw j ∧ look st.objs j = some x ∧ F j b) → b < w'.heap.size → (∀ i, Nw i → ¬ nF i b) → Fr' b) → (∀ i, Nw i → lk' i = look objs' i ∧ pl' i = nv i) →
      ∀ i ep ob, Nw i → look objs' i = some (ep, ob) → ObR P w' (C0 P w' lk' pl' Fr') (Rd P w' Fr') (nv i) (nF i) ob) :
    ∃ pl' F', SimW P B W { st with objs := objs' } a w' pl' F' ∧ (∀ i, Nw i → pl' i = nv i) ∧
      (∀ b, (Free B W.o (look st.objs) F w b ∨ w.heap.size ≤ b ∨ ∃ j x, Nw j ∧ look st.objs j = some x ∧ F j b) → b < w'.heap.size → (∀ i, Nw i → ¬ nF i b) → Free B W.o (look objs') F' w' b) ∧ Goes P w w' (look st.objs) (look objs') pl pl' (Free B W.o (look st.objs) F w) (Free B W.o (look objs') F' w') ∧ (∀ j, ¬ Nw j → F' j = F j) := by
  classical
  let pl' : Nat → Value := fun i => if Nw i then nv i else pl i
  let F' : Nat → Nat → Prop := fun i => if Nw i then nF i else F i
  have e1 : ∀ i, Nw i → F' i = nF i := fun i h => if_pos h
  have e2 : ∀ i, ¬ Nw i → F' i = F i := fun i h => if_neg h
  have hapN : ∀ i x b, ¬ Nw i → look st.objs i = some x → F i b → ¬ ∃ j x, Nw j ∧ look st.objs j = some x ∧ F j b := fun i x b hi hx hf ⟨j, y, hj, hy, hf'⟩ =>
    h.apart i j _ _ b (fun e => hi (by rw [e]; exact hj)) hx hy hf hf'
  have hfr : ∀ b, (Free B W.o (look st.objs) F w b ∨ w.heap.size ≤ b ∨ ∃ j x, Nw j ∧ look st.objs j = some x ∧ F j b) → b < w'.heap.size → (∀ i, Nw i → ¬ nF i b) → Free B W.o (look objs') F' w' b := fun b hb hlt hnb => by
    refine ⟨?_, hlt, fun i x hi hf => ?_⟩
    · rcases hb with hb | hb | ⟨j, x, hj, hx, hb⟩
      · exact hb.1
      · exact .inr (.inl (Nat.le_trans h.below.size hb))
      · exact .inr (h.range _ _ _ hx hb).1
    · by_cases hN : Nw i
      · rw [e1 i hN] at hf; exact hnb i hN hf
      · rw [e2 i hN] at hf
        rw [hl i hN] at hi
        rcases hb with hb | hb | hb
        · exact hb.2.2 _ _ hi hf
        · have := (h.range _ _ _ hi hf).2; omega
        · exact hapN i x b hN hi hf hb
  have g : Goes P w w' (look st.objs) (look objs') pl pl' (Free B W.o (look st.objs) F w) (Free B W.o (look objs') F' w') := by
    refine ⟨fun b hb => hfr b (.inl hb) (Nat.lt_of_lt_of_le hb.2.1 hw.size) fun i hi hf => ?_, fun b hb => hk b hb.2.1 fun i x _ hx hf => hb.2.2 i x hx hf, fun o ep ob ho => ?_⟩
    · rcases (hF i b hi hf).2 with h1 | ⟨j, x, _, hx, h1⟩
      · have := hb.2.1; omega
      · exact hb.2.2 j x hx h1
    · by_cases hN : Nw o
      · obtain ⟨ep', ob', h1, h2, _⟩ := hn o hN
        refine ⟨ep', ob', h1, ?_⟩
        rcases h2 _ _ ho with h3 | ⟨h3, h4, h5, h6⟩
        · exact .inl h3
        · exact .inr ⟨h3, (if_pos hN).trans h4, h5, h6⟩
      · exact ⟨ep, ob, (hl o hN).trans ho, .inr ⟨rfl, if_neg hN, rfl, rfl⟩⟩
  have hC := hob (look objs') pl' (Free B W.o (look objs') F' w') hfr fun i hi => ⟨rfl, if_pos hi⟩
  refine ⟨pl', F', ⟨h.old, h.size, h.defers, h.below.trans hw, fun i hi => (h.tmps i hi).goes g, fun o ep ob ho => ?_, fun o x b ho hf => ?_, fun o o' x x' b hne ho ho' hf hf' => ?_, fun o ob0 h0 ep ob ho => ?_⟩, fun i hi => if_pos hi, hfr, g, e2⟩
  · by_cases hN : Nw o
    · rw [e1 o hN, show pl' o = nv o from if_pos hN]
      exact hC o ep ob hN ho
    · have ho0 := ho
      rw [hl o hN] at ho0
      rw [e2 o hN, show pl' o = pl o from if_neg hN]
      exact (h.objs o ep ob ho0).goes (fun b hb => hk b (h.range o _ b ho0 hb).2 fun i x hi hx hf => hapN o _ b hN ho0 hb ⟨i, x, hi, hx, hf⟩) (fun _ _ hc => C0.goes g hc) (fun _ _ hr => hr.mono g.more g.heap)
  · by_cases hN : Nw o
    · rw [e1 o hN] at hf
      obtain ⟨h1, h2⟩ := hF o b hN hf
      refine ⟨?_, h1⟩
      rcases h2 with h2 | ⟨j, y, _, hy, h2⟩
      · exact .inl (Nat.le_trans h.below.size h2)
      · exact (h.range _ _ _ hy h2).1
    · rw [e2 o hN] at hf
      rw [hl o hN] at ho
      have := h.range _ _ _ ho hf
      exact ⟨this.1, Nat.lt_of_lt_of_le this.2 hw.size⟩
  · have key : ∀ i j x, Nw i → ¬ Nw j → look st.objs j = some x → nF i b → F j b → False := fun i j x hi hj hx hfi hfj => by
      rcases (hF i b hi hfi).2 with h1 | h1
      · have := (h.range _ _ _ hx hfj).2; omega
      · exact hapN j x b hj hx hfj h1
    by_cases hN : Nw o
    · rw [e1 o hN] at hf
      by_cases hN' : Nw o'
      · rw [e1 o' hN'] at hf'
        exact hd o o' b hN hN' hne hf hf'
      · rw [e2 o' hN'] at hf'
        rw [hl o' hN'] at ho'
        exact key o o' _ hN hN' ho' hf hf'
    · rw [e2 o hN] at hf
      rw [hl o hN] at ho
      by_cases hN' : Nw o'
      · rw [e1 o' hN'] at hf'
        exact key o' o _ hN' hN ho hf' hf
      · rw [e2 o' hN'] at hf'
        rw [hl o' hN'] at ho'
        exact h.apart _ _ _ _ b hne ho ho' hf hf'
  · by_cases hN : Nw o
    · obtain ⟨ep', ob', h1, h2, h3⟩ := hn o hN
      rw [h1] at ho
      cases ho
      cases hlo : look st.objs o with
      | none => exact .inl (h3 hlo)
      | some x =>
        obtain ⟨e0, b0⟩ := x
        rcases h2 _ _ hlo with h4 | ⟨h4, h5, h6, h7⟩
        · exact .inl (by omega)
        · rcases h.hist o ob0 h0 _ _ hlo with h8 | ⟨h8, h9, h10⟩
          · exact .inl (by omega)
          · exact .inr ⟨(if_pos hN).trans (h5.trans h8), h6.trans h9, h7.trans h10⟩
    · rw [hl o hN] at ho
      rcases h.hist o ob0 h0 ep ob ho with h5 | ⟨h5, h6⟩
      · exact .inl h5
      · exact .inr ⟨(if_neg hN).trans h5, h6⟩

/-! ### What is handed over -/
section
variable (m : List (Nat × Nat × Nat)) (lk : Nat → Option (Nat × Ob))
/-- A caller's value v and the callee's x: one of the objects that go over, or a thing that is read. -/
def SeeM0 (v x : V) : Prop := (isOwnV x = true ∧ v = renV0 m x) ∨ (isOwnV x = false ∧ See0 lk v x)
def SeeML : List V → List V → Prop
  | [], [] => True
  | c :: cs, d :: ds => SeeM0 m lk c d ∧ SeeML cs ds
  | _, _ => False
def SeeM1 : V → V → Prop
  | .agg cs, .agg ds => SeeML m lk cs ds
  | v, x => SeeM0 m lk v x
def SeeMA : List V → List V → Prop
  | [], [] => True
  | c :: cs, d :: ds => SeeM1 m lk c d ∧ SeeMA cs ds
  | _, _ => False
end
def pureOb : Ob → Bool
  | .box _ cs => cs.all fun v => match v with | .t x => x.cst | .rptr .. => false | _ => true
  | .row _ d _ _ => d
  | .hole _ _ _ x => (match x with | .t x => x.cst | .rptr .. => false | _ => true)
  | .gone => true
/-- The objects that are read from outside. -/
def outs0 (v x : V) : List Nat := if isOwnV x then [] else rids0 v
def outsL : List V → List V → List Nat
  | c :: cs, d :: ds => outs0 c d ++ outsL cs ds
  | _, _ => []
def outs1 : V → V → List Nat
  | .agg cs, .agg ds => outsL cs ds
  | v, x => outs0 v x
def outsA : List V → List V → List Nat
  | c :: cs, d :: ds => outs1 c d ++ outsA cs ds
  | _, _ => []
section
variable {P : Program} {B : Nat → Prop} {W : En} {st : St} {a : Act} {w : World} {pl : Nat → Value} {F : Nat → Nat → Prop} {m : List (Nat × Nat × Nat)} {objs : List (Nat × Nat × Ob)} {plc : Nat → Value} {FrE : Nat → Prop}
end
end Go.Proofs.Ytmkpgcahmbancaa.Ab
