/- What is proved: the steps of single operations on abstract states: rows that are made, built, appended to.
   Conditions: none beyond those that each lemma names. -/
import Derived.Test.YtmkpgcahmbancaaAbs7
namespace Go.Proofs.Ytmkpgcahmbancaa.Ab
set_option linter.unusedSimpArgs false
set_option linter.unusedVariables false
open Go.RowKit

/-! ### Cells that go into a row -/
/-- The trees that values become in a row; the objects that go over into it; whether the row owns all that is in it. -/
def cvt (lk : Nat → Option (Nat × Ob)) : List V → Option (List T × List (Nat × Nat) × Bool)
  | [] => some ([], [], true)
  | .t x :: r => match cvt lk r with
    | some (ts, ks, d) => some (x :: ts, ks, (match x with | .lst .. => false | _ => d))
    | none => none
  | .hnd o ep :: r => match lk o, cvt lk r with
    | some (ep', .row fl d' e els), some (ts, ks, d) => if ep' = ep then some (.lst fl e els :: ts, (o, ep) :: ks, d && d') else none
    | _, _ => none
  | _ => none
section
variable {P : Program} {B : Nat → Prop} {W : En} {st : St} {a : Act} {w : World} {pl : Nat → Value} {F : Nat → Nat → Prop}
/-- What is known of trees that stand behind values, with the objects ks. -/
structure Cv (P : Program) (B : Nat → Prop) (W : En) (st : St) (w : World) (F : Nat → Nat → Prop) (ts : List T) (us : List Value) (ks : List (Nat × Nat)) (d : Bool) : Prop where
  len : us.length = ts.length
  one : ∀ u ∈ us, u.oneCell' = true
  rd : ∀ (k : Nat) (x : T) (u : Value), ts[k]? = some x → us[k]? = some u → Rd P w (fun b => Free B W.o (look st.objs) F w b ∨ ∃ o e y, (o, e) ∈ ks ∧ look st.objs o = some y ∧ F o b) x u
  own : d = true → ∃ fs : Nat → Nat → Prop, (∀ (k : Nat) (x : T) (u : Value), ts[k]? = some x → us[k]? = some u → Ow P w x u (fs k)) ∧ (∀ k b, fs k b → ∃ o e y, (o, e) ∈ ks ∧ look st.objs o = some y ∧ F o b) ∧ ∀ k k' b, k ≠ k' → fs k b → ¬ fs k' b
  live : ∀ o e, (o, e) ∈ ks → ∃ b, look st.objs o = some (e, b)
theorem SimW.cvt (h : SimW P B W st a w pl F) : ∀ {vs : List V} {us : List Value} {ts : List T} {ks : List (Nat × Nat)} {d : Bool}, Pw (C0 P w (look st.objs) pl (Free B W.o (look st.objs) F w)) vs us → cvt (look st.objs) vs = some (ts, ks, d) → (ks.map (·.1)).Nodup → Cv P B W st w F ts us ks d
  | [], us, ts, ks, d, hp, hc, _ => by
    cases hc
    have : us = [] := List.eq_nil_of_length_eq_zero hp.1
    subst this
    exact ⟨rfl, by simp, fun k x u h => by simp at h, fun _ => ⟨fun _ _ => False, fun k x u h => by simp at h, fun _ _ h => h.elim, fun _ _ _ _ h => h.elim⟩, fun o e h => by cases h⟩
  | _ :: _, [], _, _, _, hp, _, _ => by have := hp.1; simp at this
  | v :: r, u :: us, ts, ks, d, hp, hc, hn => by
    have hr : Pw (C0 P w (look st.objs) pl (Free B W.o (look st.objs) F w)) r us := ⟨by have := hp.1; simpa using this, fun k x v hx hv => hp.2 (k + 1) x v (by simpa using hx) (by simpa using hv)⟩
    have hv := hp.2 0 v u rfl rfl
    cases v with
    | t x =>
      unfold Ab.cvt at hc
      split at hc
      · rename_i ts' ks' d' hc'
        cases hc
        have ih := h.cvt hr hc' hn
        have hx : Rd P w (Free B W.o (look st.objs) F w) x u := hv
        refine ⟨by simp [ih.len], fun y hy => ?_, fun k y z hy hz => ?_, fun hd => ?_, ih.live⟩
        · rcases List.mem_cons.1 hy with rfl | hy
          · exact hx.one
          · exact ih.one y hy
        · cases k with
          | zero => simp at hy hz; subst hy hz; exact hx.mono (fun b hb => .inl hb) fun _ _ => rfl
          | succ k => exact ih.rd k y z (by simpa using hy) (by simpa using hz)
        · have hd' : d' = true ∧ ∀ fl e els, x ≠ .lst fl e els := by
            cases x <;> first | (exact ⟨hd, fun _ _ _ h => by cases h⟩) | cases hd
          obtain ⟨fs, g1, g2, g3⟩ := ih.own hd'.1
          refine ⟨fun k b => match k with | 0 => False | k + 1 => fs k b, fun k y z hy hz => ?_, fun k b hb => ?_, fun k k' b hne hb => ?_⟩
          · cases k with
            | zero =>
              simp at hy hz
              subst hy hz
              cases x with
              | nil => cases hx; exact .nil fun _ h => h
              | lst fl e els => exact absurd rfl (hd'.2 fl e els)
              | int => exact .flat rfl (hx.flat rfl) fun _ h => h
              | bool => exact .flat rfl (hx.flat rfl) fun _ h => h
              | str => exact .flat rfl (hx.flat rfl) fun _ h => h
            | succ k => exact g1 k y z (by simpa using hy) (by simpa using hz)
          · cases k with
            | zero => exact hb.elim
            | succ k => exact g2 k b hb
          · cases k with
            | zero => exact hb.elim
            | succ k =>
              cases k' with
              | zero => exact fun h => h
              | succ k' => exact g3 k k' b (by omega) hb
      · cases hc
    | hnd o ep =>
      unfold Ab.cvt at hc
      split at hc
      · rename_i ep' fl d' e els ts' ks' d'' hl hc'
        split at hc
        · rename_i he
          subst he
          cases hc
          rw [List.map_cons, List.nodup_cons] at hn
          have ih := h.cvt hr hc' hn.2
          obtain ⟨hone, ep2, ob, h2, h3, h4⟩ : C0 P w (look st.objs) pl (Free B W.o (look st.objs) F w) (.hnd o ep') u := hv
          rw [hl] at h2
          cases h2
          have hu := (h4 rfl).2
          obtain ⟨us', hrow⟩ := row_parts (h.objs o _ _ hl)
          refine ⟨by simp [ih.len], fun y hy => ?_, fun k y z hy hz => ?_, fun hd => ?_, fun i e' hi => ?_⟩
          · rcases List.mem_cons.1 hy with rfl | hy
            · exact hone
            · exact ih.one y hy
          · cases k with
            | zero =>
              simp at hy hz
              subst hy hz
              obtain ⟨A, c, g1, g2, g3, g4⟩ := hrow.slice
              rw [hu, g1]
              refine .lst us' g2 g3 hrow.uni hrow.flt hrow.len (fun hn => ?_) fun k x u hx hv => (hrow.rd k x u hx hv).mono (fun b hb => ?_) fun _ _ => rfl
              · obtain ⟨g, off, rfl, g5, _, g6⟩ := g4 hn
                exact ⟨_, rfl, .inr ⟨o, ep', _, by simp, hl, hrow.top _ g5⟩, fun k u hk => by rw [add_lit0]; exact g6 k u hk⟩
              · rcases hb with hb | hb
                · exact .inr ⟨o, ep', _, by simp, hl, hb⟩
                · exact .inl hb
            | succ k =>
              refine (ih.rd k y z (by simpa using hy) (by simpa using hz)).mono (fun b hb => ?_) fun _ _ => rfl
              rcases hb with hb | ⟨i, e', y', h1, h2⟩
              · exact .inl hb
              · exact .inr ⟨i, e', y', by simp [h1], h2⟩
          · simp only [Bool.and_eq_true] at hd
            obtain ⟨hd1, hd2⟩ := hd
            subst hd2
            obtain ⟨fs, g1, g2, g3⟩ := ih.own hd1
            have hrow' : Ow P w (.lst fl e els) (pl o) (F o) := by
              rcases h.objs o _ _ hl with ⟨_, h5⟩ | ⟨h5, _⟩
              · exact h5
              · cases h5
            have hap : ∀ k b, F o b → ¬ fs k b := fun k b hb hf => by
              obtain ⟨i, e', y', h1, h2, h3⟩ := g2 k b hf
              refine h.apart o i _ _ b ?_ hl h2 hb h3
              rintro rfl
              exact hn.1 (List.mem_map.2 ⟨_, h1, rfl⟩)
            refine ⟨fun k b => match k with | 0 => F o b | k + 1 => fs k b, fun k y z hy hz => ?_, fun k b hb => ?_, fun k k' b hne hb => ?_⟩
            · cases k with
              | zero => simp at hy hz; subst hy hz; rw [hu]; exact hrow'
              | succ k => exact g1 k y z (by simpa using hy) (by simpa using hz)
            · cases k with
              | zero => exact ⟨o, ep', _, by simp, hl, hb⟩
              | succ k =>
                obtain ⟨i, e', y', h1, h2⟩ := g2 k b hb
                exact ⟨i, e', y', by simp [h1], h2⟩
            · cases k with
              | zero =>
                cases k' with
                | zero => omega
                | succ k' => exact hap k' b hb
              | succ k =>
                cases k' with
                | zero => exact fun hf => hap k b hf hb
                | succ k' => exact g3 k k' b (by omega) hb
          · rcases List.mem_cons.1 hi with h5 | h5
            · cases h5; exact ⟨_, hl⟩
            · exact ih.live i e' h5
        · cases hc
      · cases hc
    | _ => cases hc
end
def unflat {α : Type} (es : Nat) : Nat → List α → List (List α)
  | 0, _ => []
  | n + 1, ts => ts.take es :: unflat es n (ts.drop es)
/-- A row's relation out of its cells. -/
theorem mk_row {P : Program} {w' : World} {CC : V → Value → Prop} {Fr' : Nat → Prop} {v' : Value} {F' : Nat → Prop} {fl d : Bool} {e : TypeId} {els : List (List T)} {us : List Value} (h1 : OwnsR w' e (P.cellsOf e) v' els.length us) (h2 : ∀ x ∈ els, x.length = P.cellsOf e) (h3 : fl = true → ∀ x ∈ els.flatten, x.flat = true) (h4 : els.flatten.length = us.length)
    (hs : d = false → (∀ (k : Nat) (x : T) (u : Value), els.flatten[k]? = some x → us[k]? = some u → Rd P w' Fr' x u) ∧ ∀ b, F' b ↔ v'.ownBlock = some b)
    (ho : d = true → ∃ fs : Nat → Nat → Prop, (∀ (k : Nat) (x : T) (u : Value), els.flatten[k]? = some x → us[k]? = some u → Ow P w' x u (fs k)) ∧ (∀ k k' b, k ≠ k' → fs k b → ¬ fs k' b) ∧ (∀ k b, fs k b → v'.ownBlock ≠ some b) ∧ ∀ b, F' b ↔ (v'.ownBlock = some b ∨ ∃ k, fs k b)) :
    ObR P w' CC (Rd P w' Fr') v' F' (.row fl d e els) := by
  cases d with
  | false =>
    obtain ⟨g1, g2⟩ := hs rfl
    exact .inr ⟨rfl, us, h1, h2, h3, h4, g1, g2⟩
  | true =>
    obtain ⟨fs, g1, g2, g3, g4⟩ := ho rfl
    exact .inl ⟨rfl, .lst us fs h1 h2 h3 h4 g1 g2 g3 g4⟩
end Go.Proofs.Ytmkpgcahmbancaa.Ab
