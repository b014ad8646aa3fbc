/- What is proved: the calculus of abstract states: a row that owns its lists gives them up, and they are only read from then on.
   Conditions: none beyond those that each lemma names. -/
import Derived.Test.YtmkpgcahmbancaaAbsI
namespace Go.Proofs.Ytmkpgcahmbancaa.Ab
set_option linter.unusedSimpArgs false
set_option linter.unusedVariables false
open Go.RowKit
section
variable {P : Program} {B : Nat → Prop} {W : En} {st : St} {a : Act} {w : World} {Q : Exit → St → Prop}
/-- The lists of a row are given up: they are read alone from then on. -/
theorem Ghost.share {o ep : Nat} {fl : Bool} {e : TypeId} {els : List (List T)} (hl : look st.objs o = some (ep, .row fl true e els)) :
    Ghost P B W st (st.upds [(o, ep, .row fl false e els)]) := fun a w ⟨pl, F, hs⟩ => by
  have hlo : look (updl st.objs [(o, ep, .row fl false e els)]) o = some (ep, .row fl false e els) := by
    show look ((o, ep, _) :: st.objs) o = _
    rw [look_cons, if_pos rfl]
  have hOw : Ow P w (.lst fl e els) (pl o) (F o) := by
    rcases hs.objs o _ _ hl with ⟨_, h5⟩ | ⟨h5, _⟩
    · exact h5
    · cases h5
  obtain ⟨us, fs, s1, s2, s3, s4, s5, s6, s7, s8⟩ : ∃ (us : List Value) (fs : Nat → Nat → Prop), OwnsR w e (P.cellsOf e) (pl o) els.length us ∧ (∀ x ∈ els, x.length = P.cellsOf e) ∧ (fl = true → ∀ x ∈ els.flatten, x.flat = true) ∧
      els.flatten.length = us.length ∧ (∀ (k : Nat) (x : T) (v : Value), els.flatten[k]? = some x → us[k]? = some v → Ow P w x v (fs k)) ∧ (∀ k k' b, k ≠ k' → fs k b → ¬ fs k' b) ∧
      (∀ k b, fs k b → (pl o).ownBlock ≠ some b) ∧ (∀ b, F o b ↔ ((pl o).ownBlock = some b ∨ ∃ k, fs k b)) := by
    generalize pl o = vo at hOw
    cases hOw with
    | flat hf => cases hf
    | lst us fs s1 s2 s3 s4 s5 s6 s7 s8 => exact ⟨us, fs, s1, s2, s3, s4, s5, s6, s7, s8⟩
  obtain ⟨pl', F', h5, _⟩ := hs.many (w' := w) (objs' := updl st.objs [(o, ep, .row fl false e els)]) (nv := fun _ => pl o) (nF := fun _ b => (pl o).ownBlock = some b) (Nw := fun k => k = o)
    (Kp.refl _ _) (fun _ _ _ => rfl)
    (fun k hk => by
      show look ((o, ep, _) :: st.objs) k = _
      rw [look_cons, if_neg fun e => hk e.symm])
    (fun k hk => by
      subst hk
      refine ⟨ep, _, hlo, fun ep0 ob0' h0 => .inr ?_, fun h0 => (by rw [hl] at h0; cases h0)⟩
      rw [hl] at h0
      cases h0
      exact ⟨rfl, rfl, rfl, rfl⟩)
    (fun k b hk hf => ⟨(hs.range _ _ _ hl ((s8 b).2 (.inl hf))).2, .inr ⟨o, _, rfl, hl, (s8 b).2 (.inl hf)⟩⟩)
    (fun k k' b hk hk' hne' _ _ => hne' (hk.trans hk'.symm))
    (fun lk' pl' Fr' hFr hlp k e' b hk hlk => by
      subst hk
      rw [hlo] at hlk
      cases hlk
      refine .inr ⟨rfl, us, s1, s2, s3, s4, fun k x u hx hu => (s5 k x u hx hu).rd fun b hb => ?_, fun b => Iff.rfl⟩
      exact hFr b (.inr (.inr ⟨_, _, rfl, hl, (s8 b).2 (.inr ⟨k, hb⟩)⟩)) (hs.range _ _ _ hl ((s8 b).2 (.inr ⟨k, hb⟩))).2 fun i _ => s7 k b hb)
  exact ⟨pl', F', h5⟩
end
/-! ### A row that is known less well -/
theorem ObR.goes_weak' {P : Program} {w : World} {CC CC' : V → Value → Prop} {Rr Rr' : T → Value → Prop} {v : Value} {F : Nat → Prop} {fl d : Bool} {e : TypeId} {els : List (List T)} (hR : ∀ x u, Rr x u → Rr' x u) (h : ObR P w CC Rr v F (.row fl d e els)) : ObR P w CC' Rr' v F (.row fl d e els) := by
  rcases h with h | ⟨hd, us, h1, h2, h3, h4, h5, h6⟩
  · exact .inl h
  · exact .inr ⟨hd, us, h1, h2, h3, h4, fun k x u hx hu => hR _ _ (h5 k x u hx hu), h6⟩
section
variable {P : Program} {B : Nat → Prop} {W : En} {st : St}
theorem Ghost.row {o ep : Nat} {fl d fl' d' : Bool} {e : TypeId} {els els' : List (List T)} (hl : look st.objs o = some (ep, .row fl d e els)) (h : ∀ w CC Fr v F, ObR P w CC (Rd P w Fr) v F (.row fl d e els) → ObR P w CC (Rd P w Fr) v F (.row fl' d' e els')) :
    Ghost P B W st (st.upds [(o, ep, .row fl' d' e els')]) := fun a w ⟨pl, F, hs⟩ => by
  have hlo : look (updl st.objs [(o, ep, .row fl' d' e els')]) o = some (ep, .row fl' d' e els') := by
    show look ((o, ep, _) :: st.objs) o = _
    rw [look_cons, if_pos rfl]
  obtain ⟨pl', F', h5, _⟩ := hs.many (w' := w) (objs' := updl st.objs [(o, ep, .row fl' d' e els')]) (nv := fun _ => pl o) (nF := fun _ b => F o b) (Nw := fun k => k = o)
    (Kp.refl _ _) (fun _ _ _ => rfl)
    (fun k hk => by
      show look ((o, ep, _) :: st.objs) k = _
      rw [look_cons, if_neg fun e => hk e.symm])
    (fun k hk => by
      subst hk
      refine ⟨ep, _, hlo, fun ep0 ob0' h0 => .inr ?_, fun h0 => (by rw [hl] at h0; cases h0)⟩
      rw [hl] at h0
      cases h0
      exact ⟨rfl, rfl, rfl, rfl⟩)
    (fun k b hk hf => ⟨(hs.range _ _ _ hl hf).2, .inr ⟨o, _, rfl, hl, hf⟩⟩)
    (fun k k' b hk hk' hne' _ _ => hne' (hk.trans hk'.symm))
    (fun lk' pl' Fr' hFr hlp k e' b hk hlk => by
      subst hk
      rw [hlo] at hlk
      cases hlk
      refine h w _ _ _ _ (ObR.goes_weak' ?_ (hs.objs _ _ _ hl))
      intro x u hx
      exact hx.mono (fun b hb => hFr b (.inl hb) hb.2.1 fun i hi hf => hb.2.2 _ _ hl hf) fun _ _ => rfl)
  exact ⟨pl', F', h5⟩
/-- An empty row, say, of which nothing is said about its cells. -/
theorem Ghost.unflat {o ep : Nat} {d : Bool} {e : TypeId} {els : List (List T)} (hl : look st.objs o = some (ep, .row true d e els)) : Ghost P B W st (st.upds [(o, ep, .row false d e els)]) :=
  Ghost.row hl fun w CC Fr v F h => by
    rcases h with ⟨hd, h⟩ | ⟨hd, us, h1, h2, h3, h4, h5, h6⟩
    · refine .inl ⟨hd, ?_⟩
      cases h with
      | flat hf => cases hf
      | lst us fs s1 s2 s3 s4 s5 s6 s7 s8 => exact .lst us fs s1 s2 (fun h => by cases h) s4 s5 s6 s7 s8
    · exact .inr ⟨hd, us, h1, h2, fun h => (by cases h), h4, h5, h6⟩
end
/-! ### Cells that are nil, as empty lists -/
def NilR (x y : T) : Prop := x = y ∨ (x = .nil ∧ ∃ fl e, y = .lst fl e [])
section
variable {P : Program} {B : Nat → Prop} {W : En} {st : St}
end
/-! ### A row that is given up altogether: what a slot holds is read alone from then on -/
section
variable {P : Program} {B : Nat → Prop} {W : En} {st : St}
theorem Ghost.free {o ep s : Nat} {fl d : Bool} {e : TypeId} {els : List (List T)} (hl : look st.objs o = some (ep, .row fl d e els)) (hx : lookT st.tmps s = .hnd o ep) :
    Ghost P B W st ⟨st.n, (s, .t (.lst fl e els)) :: st.tmps, (o, ep + 1, .gone) :: st.objs⟩ := fun a w ⟨pl, F, hs⟩ => by
  have hlo : look ((o, ep + 1, .gone) :: st.objs) o = some (ep + 1, .gone) := by rw [look_cons, if_pos rfl]
  obtain ⟨pl', F', h5, _, hFr, _⟩ := hs.many (w' := w) (objs' := (o, ep + 1, .gone) :: st.objs) (nv := fun _ => .slice none 0 0) (nF := fun _ _ => False) (Nw := fun k => k = o)
    (Kp.refl _ _) (fun _ _ _ => rfl)
    (fun k hk => by rw [look_cons, if_neg fun e => hk e.symm])
    (fun k hk => by
      subst hk
      refine ⟨ep + 1, _, hlo, fun ep0 ob0' h0 => .inl ?_, fun h0 => (by rw [hl] at h0; cases h0)⟩
      rw [hl] at h0
      cases h0
      exact Nat.lt_succ_self _)
    (fun k b hk hf => hf.elim)
    (fun k k' b hk hk' hne' h _ => h)
    (fun lk' pl' Fr' hFr hlp k e' b hk hlk => by
      subst hk
      rw [hlo] at hlk
      cases hlk
      exact fun _ h => h)
  refine ⟨pl', F', { h5 with tmps := fun i hi => ?_ }⟩
  show C2 P w _ _ _ (lookT ((s, .t (.lst fl e els)) :: st.tmps) i) _
  rw [lookT_cons]
  split
  · rename_i e
    subst e
    have h6 := hs.tmps _ hi
    rw [hx] at h6
    have h7 : C0 P w (look st.objs) pl (Free B W.o (look st.objs) F w) (.hnd o ep) (a.tmps.getD s undef) := h6
    have hcv := hs.cvt (vs := [.hnd o ep]) (us := [a.tmps.getD s undef]) (ts := [.lst fl e els]) (ks := [(o, ep)]) (d := d) ⟨rfl, fun k x u hx hu => by
      cases k with
      | zero => cases hx; cases hu; exact h7
      | succ k => simp at hx⟩ (by simp [cvt, hl]) (by simp)
    have h8 := hcv.rd 0 _ _ rfl rfl
    refine h8.mono (fun b hb => ?_) fun _ _ => rfl
    rcases hb with hb | ⟨o', e', y, h1, h2, h3⟩
    · exact hFr b (.inl hb) hb.2.1 fun _ _ h => h
    · simp at h1
      obtain ⟨rfl, rfl⟩ := h1
      exact hFr b (.inr (.inr ⟨_, _, rfl, h2, h3⟩)) (hs.range _ _ _ h2 h3).2 fun _ _ h => h
  · exact h5.tmps i hi
end
/-! ### The end of a function whose result is one of many -/
section
variable {P : Program} {rl : List ResultVar} {objs : List (Nat × Nat × Ob)} {e : Exit} {st : St}
theorem done3 {A B C : Type} {O : A × B × C → List (Nat × Nat × Ob)} {R : A × B × C → V} {Post : A × B × C → Prop} {a : A} {b : B} {c : C} (dd : DoneM P rl objs (O (a, b, c)) (R (a, b, c)) e st) (pp : Post (a, b, c)) : DoneP P rl objs O R Post e st := ⟨_, pp, dd⟩
end
/-! ### Fresh results that are read alone from then on -/
def roV0 : V → V
  | .fr fl e els => .t (.lst fl e els)
  | v => v
def roV1 : V → V
  | .agg cs => .agg (cs.map roV0)
  | v => roV0 v
def roV2 : V → V
  | .tup vs => .tup (vs.map roV1)
  | v => roV1 v
section
variable {P : Program} {w : World} {Fr Fr' : Nat → Prop}
theorem R0.ro {F : Nat → Prop} {v : V} {u : Value} (hF : ∀ b, Fr b → Fr' b) (hG : ∀ b, F b → Fr' b) (h : R0 P w Fr F v u) : R0 P w Fr' (fun _ => False) (roV0 v) u := by
  cases v with
  | t x => exact Rd.mono h hF fun _ _ => rfl
  | fr fl e els => exact Ow.rd h hG
  | lit v => exact h
  | _ => exact h
theorem R1.ro {F : Nat → Nat → Prop} {v : V} {u : Value} (hF : ∀ b, Fr b → Fr' b) (hG : ∀ k b, F k b → Fr' b) (h : R1 P w Fr F v u) : R1 P w Fr' (fun _ _ => False) (roV1 v) u := by
  cases v with
  | agg cs =>
    obtain ⟨us, h1, h2, h3⟩ := h
    refine ⟨us, h1, by rw [List.length_map]; exact h2, fun k v x hv hx => ?_⟩
    rw [List.getElem?_map] at hv
    obtain ⟨v0, hv0, rfl⟩ := Option.map_eq_some_iff.1 hv
    exact R0.ro hF (hG k) (h3 k v0 x hv0 hx)
  | fr fl e els => exact R0.ro (v := .fr fl e els) hF (hG 0) h
  | t x => exact R0.ro (v := .t x) hF (hG 0) h
  | lit x => exact h
  | _ => exact h
theorem R2.ro {F : Nat → Nat → Nat → Prop} {v : V} {u : Value} (hF : ∀ b, Fr b → Fr' b) (hG : ∀ j k b, F j k b → Fr' b) (h : R2 P w Fr F v u) : R2 P w Fr' (fun _ _ _ => False) (roV2 v) u := by
  cases v with
  | tup vs =>
    obtain ⟨us, h1, h2, h3⟩ := h
    refine ⟨us, h1, by rw [List.length_map]; exact h2, fun k v x hv hx => ?_⟩
    rw [List.getElem?_map] at hv
    obtain ⟨v0, hv0, rfl⟩ := Option.map_eq_some_iff.1 hv
    exact R1.ro hF (hG k) (h3 k v0 x hv0 hx)
  | agg cs => exact R1.ro (v := .agg cs) hF (hG 0) h
  | fr fl e els => exact R1.ro (v := .fr fl e els) hF (hG 0) h
  | t x => exact R1.ro (v := .t x) hF (hG 0) h
  | lit x => exact h
  | _ => exact h
theorem own_ro {r : V} : isOwnV r = true → roV2 r = r := by cases r <;> first | (intro _; rfl) | (intro h; cases h)
theorem own_ro' {r : V} : isOwnV (roV2 r) = isOwnV r := by cases r <;> rfl
theorem AMP.post {f : FuncId} {objs : List (Nat × Nat × Ob)} {as : List V} {α : Type} {O : α → List (Nat × Nat × Ob)} {R : α → V} {Post Post' : α → Prop} (h : AMP P f objs as O R Post) (hp : ∀ x, Post x → Post' x) : AMP P f objs as O R Post' :=
  ⟨h.1, h.2.1, fun w B args pl F hB hE hargs => (h.2.2 w B args pl F hB hE hargs).mono fun _ _ ⟨x, u, pl', F', FF, h1, h2⟩ => ⟨x, u, pl', F', FF, hp x h1, h2⟩⟩
theorem AMP.map {f : FuncId} {objs : List (Nat × Nat × Ob)} {as : List V} {α β : Type} {O : α → List (Nat × Nat × Ob)} {R : α → V} {Post : α → Prop} {O' : β → List (Nat × Nat × Ob)} {R' : β → V} {Post' : β → Prop} (g : α → β) (h : AMP P f objs as O R Post) (hO : ∀ x, O x = O' (g x)) (hR : ∀ x, R x = R' (g x)) (hp : ∀ x, Post x → Post' (g x)) : AMP P f objs as O' R' Post' :=
  ⟨h.1, h.2.1, fun w B args pl F hB hE hargs => (h.2.2 w B args pl F hB hE hargs).mono fun _ _ ⟨x, u, pl', F', FF, h1, h2, h3, h4⟩ => ⟨g x, u, pl', F', FF, hp x h1, h2, h3, by rw [← hO, ← hR]; exact h4⟩⟩
/-- What is fresh in the result is read alone from then on. -/
theorem AMP.ro {f : FuncId} {objs : List (Nat × Nat × Ob)} {as : List V} {α : Type} {O : α → List (Nat × Nat × Ob)} {R : α → V} {Post : α → Prop} (h : AMP P f objs as O R Post) : AMP P f objs as O (fun x => roV2 (R x)) Post := by
  refine ⟨h.1, h.2.1, fun w B args pl F hB hE hargs => (h.2.2 w B args pl F hB hE hargs).mono ?_⟩
  rintro e w' ⟨x, u, pl', F', FF, hp, he, hk, hm⟩
  have hFr : ∀ b, FrM B (En.o ⟨w, MSet objs F, objs, pl⟩) w' (look (O x)) F' FF b → FrM B (En.o ⟨w, MSet objs F, objs, pl⟩) w' (look (O x)) F' (fun _ _ _ => False) b := fun b hb => ⟨hb.1, hb.2.1, hb.2.2.1, fun _ _ h => h⟩
  have hG : ∀ j k b, FF j k b → FrM B (En.o ⟨w, MSet objs F, objs, pl⟩) w' (look (O x)) F' (fun _ _ _ => False) b := fun j k b hb => ⟨.inr (hm.rangeF j k b hb).1, (hm.rangeF j k b hb).2, fun o y ho hf => hm.apartM o y j k b ho hb hf, fun _ _ h => h⟩
  refine ⟨x, u, pl', F', fun _ _ _ => False, hp, he, hk, hm.lks, fun o ep ob ho => ?_, ?_, hm.range, fun _ _ _ h => h.elim, hm.apart, fun _ _ _ _ _ _ h => h.elim, fun _ _ _ _ _ _ h => h.elim⟩
  · exact (hm.obs o ep ob ho).goes_weak (fun y u _ hc => hc.weak hFr fun _ _ => rfl) (fun y u hr => hr.mono hFr fun _ _ => rfl)
  · have hr := hm.res
    unfold R2m at hr ⊢
    rw [own_ro']
    split
    · rename_i ho
      rw [if_pos ho] at hr
      show C0 _ _ _ _ _ (roV2 (R x)) u
      rw [own_ro ho]
      exact hr.weak hFr fun _ _ => rfl
    · rename_i ho
      rw [if_neg ho] at hr
      exact hr.ro hFr hG
end
/-! ### Objects that go over into a row's cells -/
theorem cvtA {v : Option (List T × List (Nat × Nat) × Bool)} {a : T} {b c : Nat} (h : v = some ([a], [(b, c)], true)) : v = some ([a], [(b, c)], true) := h
theorem cvtB {v : Option (List T × List (Nat × Nat) × Bool)} {a : T} (h : v = some ([a], [], true)) : v = some ([a], [], true) := h
theorem cvtC {v : Option (List T × List (Nat × Nat) × Bool)} {a1 a2 a3 a4 a5 a6 a7 a8 a9 : T} {b1 b2 b3 b4 : Nat} (h : v = some ([a1, a2, a3, a4, a5, a6, a7, a8, a9], [(b1, b2), (b3, b4)], true)) : v = some ([a1, a2, a3, a4, a5, a6, a7, a8, a9], [(b1, b2), (b3, b4)], true) := h
section
variable {P : Program} {B : Nat → Prop} {W : En} {o : Oper} {st : St} {KE : V → List (Nat × Nat × Ob) → Prop}
set_option maxHeartbeats 1000000 in
/-- Cells are stored into an element of a row that owns its lists; the objects among them go over into it. -/
theorem OpS.store_own {ty : TypeId} {x z : Operand} {i ep n off : Nat} {e : TypeId} {els els' : List (List T)} {y : Ty} {v : V} {ts cs : List T} {ks : List (Nat × Nat)} {kl : List (Nat × Nat × Ob)} (ho : o.op = .store ty x z) (hx : st.ev x = .ptr i ep n off) (hl : look st.objs i = some (ep, .row false true e els)) (hy : tinfo P ty = some y)
    (hz : st.ev z = v) (hs : (cellsV v).all V.sto = true) (hts : cvt (look st.objs) (cellsV v) = some (ts, ks, true)) (hnd : nodupB (ks.map (·.1)) = true) (hks : (ks.all fun p => !Nat.beq p.1 i) = true) (hn : (cellsV v).length = y.size) (hlt : n < els.length) (hc : els.getD n [] = cs) {ye : Ty} (hye : tinfo P e = some ye) (hle : Nat.ble (off + ts.length) ye.size = true) (hpos : Nat.beq y.size 0 = false)
    (hkl : kills ks = kl) (hel : els.set n (setRange cs off ts) = els') (hK : KE (.lit undef) ((i, ep, .row false true e els') :: kl)) : OpS P B W o st KE := by
  subst hz hc hkl hel
  have hle : off + ts.length ≤ P.cellsOf e := by rw [cellsOf_t hye]; exact Nat.le_of_ble_eq_true hle
  have hpos : y.size ≠ 0 := Nat.ne_of_beq_eq_false hpos
  have hksn : ∀ x e, (x, e) ∈ ks → x ≠ i := fun x e hx hs => by
    have := List.all_eq_true.1 hks _ hx
    subst hs
    simp at this
  intro a w pl0 F0 hs0 next Q hgo
  have hlive : ∀ x e, (x, e) ∈ ks → ∃ b, look st.objs x = some (e, b) := by
    obtain ⟨vs, _, hv2, _⟩ := ((hs0.ev z).c1 hs).cells hs
    exact (hs0.cvt hv2 hts (nodupB_ok hnd)).live
  refine OpS.chg (P := P) (B := B) (W := W) (o := o) (st := st) (KE := KE) (ks := ks) hK (fun x e hx => ⟨hksn x e hx, hlive x e hx⟩) (fun a w pl F h => ?_) a w pl0 F0 hs0 next Q hgo
  have h1 := h.ev x
  rw [hx] at h1
  obtain ⟨_, ep', ob, h2, h3, h4⟩ : C0 P w (look st.objs) pl (Free B W.o (look st.objs) F w) (.ptr i ep n off) (a.eval x) := h1
  rw [hl] at h2
  cases h2
  obtain ⟨g, bb, hg, hu⟩ := h4 rfl
  have hob := h.objs i _ _ hl
  obtain ⟨us0, hp⟩ := row_parts hob
  have huni := hp.uni
  have hnL : n * P.cellsOf e + P.cellsOf e ≤ els.length * P.cellsOf e := by rw [← Nat.succ_mul]; exact Nat.mul_le_mul_right _ hlt
  obtain ⟨vs, hv1, hv2, hv3⟩ := ((h.ev z).c1 hs).cells hs
  have hcv := h.cvt hv2 hts (nodupB_ok hnd)
  have hlen : vs.length = ts.length := hcv.len
  have htl : ts.length = y.size := by rw [← hn, ← hlen, hv2.1]
  obtain ⟨cfs, c1, c2, c3⟩ := hcv.own rfl
  have key : ∀ us, OwnsR w e (P.cellsOf e) (pl i) els.length us → ∃ cap cur fz, pl i = .slice (some ⟨g, bb, none⟩) els.length cap ∧ w.heap[g]? = some (.cells cur e fz) ∧ (fz = (0, 0) ∨ cur.size ≤ fz.1) ∧ els.length ≤ cap ∧ cap ≤ maxLen ∧ bb + cap * P.cellsOf e ≤ cur.size ∧ (cur.toList.drop bb).take (els.length * P.cellsOf e) = us := fun us ho => by
    rcases ho.2 with ⟨_, h0⟩ | ⟨g', off', cap, cur, fz, e1, rest⟩
    · omega
    · rw [e1] at hg
      simp only [blk, Option.some.injEq, Prod.mk.injEq] at hg
      obtain ⟨rfl, rfl⟩ := hg
      exact ⟨cap, cur, fz, e1, rest⟩
  obtain ⟨cap, cur, fz, k1, k3, k4, k5, k6, k7, k8⟩ := key us0 hp.own
  have hcap : bb + els.length * P.cellsOf e ≤ cur.size := Nat.le_trans (Nat.add_le_add_left (Nat.mul_le_mul_right _ k5) _) k7
  have hrun := run_storeCells_g P g (bb + (n * P.cellsOf e + off)) e fz vs 0 cur w k3 k4 (by omega) hv3
  have hcur : (cur.toList.take (bb + (n * P.cellsOf e + off) + 0) ++ vs ++ cur.toList.drop (bb + (n * P.cellsOf e + off) + 0 + vs.length)) = setRange cur.toList (bb + (n * P.cellsOf e + off)) vs := rfl
  rw [hcur] at hrun
  have htop : (pl i).ownBlock = some g := by rw [k1]; rfl
  have hFg : F i g := hp.top g htop
  have k2 : W.o g := (h.range i _ g hl hFg).1
  have hown : ∀ us, OwnsR w e (P.cellsOf e) (pl i) els.length us → OwnsR (w.setRow g (setRange cur.toList (bb + (n * P.cellsOf e + off)) vs).toArray) e (P.cellsOf e) (pl i) (els.set n (setRange (els.getD n []) off ts)).length (setRange us (n * P.cellsOf e + off) vs) := fun us ho => by
    rw [List.length_set]
    have hus : us = us0 := ho.uniq hp.own
    subst hus
    refine ⟨by rw [setRange_len _ _ _ (by rw [ho.1]; omega)]; exact ho.1, .inr ⟨g, bb, cap, _, fz, k1, setRow_heap w g cur _ e fz k3, ?_, k5, k6, ?_, ?_⟩⟩
    · rcases k4 with k4 | k4
      · exact .inl k4
      · exact .inr (by rw [List.size_toArray, setRange_len _ _ _ (by simp; omega)]; simpa using k4)
    · rw [List.size_toArray, setRange_len _ _ _ (by simp; omega)]; simpa using k7
    · rw [List.toList_toArray, setRange_drop _ _ _ _ (by simp; omega), setRange_take _ _ _ _ (by omega) (by simp; omega), k8]
  have huni' : ∀ x ∈ els.set n (setRange (els.getD n []) off ts), x.length = P.cellsOf e := fun x hx => by
    rcases List.mem_or_eq_of_mem_set hx with hx | rfl
    · exact huni x hx
    · have h0 := huni _ (getD_mem hlt)
      rw [setRange_len _ _ _ (by omega)]; exact h0
  have hfl' := flatten_set huni hlt hle
  have hL : els.flatten.length = els.length * P.cellsOf e := flatten_len huni
  have hcr : ∀ k b, cfs k b → W.o b ∧ b < w.heap.size ∧ ¬ F i b ∧ ∃ o e y, (o, e) ∈ ks ∧ look st.objs o = some y ∧ F o b := fun k b hb => by
    obtain ⟨o', e', y', q1, q2, q3⟩ := c2 k b hb
    exact ⟨(h.range _ _ _ q2 q3).1, (h.range _ _ _ q2 q3).2, fun hf => h.apart o' i _ _ b (hksn _ _ q1) q2 hl q3 hf, o', e', y', q1, q2, q3⟩
  rcases hob with ⟨hd, hob⟩ | ⟨hd, _⟩
  case inr => cases hd
  generalize hpl : pl i = vo at *
  cases hob with
  | flat hf => cases hf
  | lst us fs s1 s2 s3 s4 s5 s6 s7 s8 =>
  have hul : us.length = els.length * P.cellsOf e := s1.1
  let fs' : Nat → Nat → Prop := fun k b => if n * P.cellsOf e + off ≤ k ∧ k < n * P.cellsOf e + off + vs.length then cfs (k - (n * P.cellsOf e + off)) b else fs k b
  have hfsF : ∀ k b, fs k b → F i b := fun k b hb => (s8 b).2 (.inr ⟨k, hb⟩)
  refine ⟨_, _, vo, fun b => vo.ownBlock = some b ∨ ∃ k, fs' k b, undef, exec_store ho hy hu (by rw [hv1]; simp; omega) (by rw [hv1]; exact hrun), .inr ⟨rfl, rfl⟩, below_setRow k2 _, fun b hb hf => setRow_other w g _ b fun e => hf _ hl (e ▸ hFg), fun ep0 ob0 h0 => ?_, fun h0 => (by rw [hl] at h0; cases h0), fun b hb => .inr ?_, fun lk' pl' Fr' gg _ _ _ => ⟨.inl ⟨rfl, .lst (setRange us (n * P.cellsOf e + off) vs) fs' (hown us s1) huni' (fun h => by cases h) (by rw [hfl', setRange_len _ _ _ (by omega), setRange_len _ _ _ (by omega)]; exact s4) (fun k x u hx hu => ?_) (fun k k' b hne hk hk' => ?_) (fun k b hk ht => ?_) fun b => Iff.rfl⟩, rfl⟩⟩
  · rw [hl] at h0; cases h0; exact .inr ⟨rfl, rfl, rfl, rfl⟩
  · rcases hb with hb | ⟨k, hb⟩
    · exact .inl ⟨_, hl, (s8 b).2 (.inl hb)⟩
    · dsimp only [fs'] at hb
      split at hb
      · obtain ⟨_, _, _, o', e', y', q1, q2, q3⟩ := hcr _ b hb
        exact .inr ⟨o', y', hksn _ _ q1, ⟨e', q1⟩, q2, q3⟩
      · exact .inl ⟨_, hl, hfsF k b hb⟩
  · rw [hfl', setRange_get _ _ _ _ (by omega)] at hx
    rw [setRange_get _ _ _ _ (by omega)] at hu
    show Ow P _ x u (fun b => if n * P.cellsOf e + off ≤ k ∧ k < n * P.cellsOf e + off + vs.length then cfs (k - (n * P.cellsOf e + off)) b else fs k b)
    by_cases hk : n * P.cellsOf e + off ≤ k ∧ k < n * P.cellsOf e + off + vs.length
    · rw [if_pos (by rw [← hlen]; exact hk)] at hx
      rw [if_pos hk] at hu
      simp only [if_pos hk]
      exact (c1 _ x u hx hu).keep fun b hb => setRow_other w g _ b fun e => (hcr _ b hb).2.2.1 (e ▸ hFg)
    · rw [if_neg (by rw [← hlen]; exact hk)] at hx
      rw [if_neg hk] at hu
      simp only [if_neg hk]
      exact (s5 k x u hx hu).keep fun b hb => setRow_other w g _ b fun e => s7 k b hb (e ▸ htop)
  · dsimp only [fs'] at hk hk'
    split at hk
    · split at hk'
      · exact c3 _ _ b (by omega) hk hk'
      · exact (hcr _ b hk).2.2.1 (hfsF _ b hk')
    · split at hk'
      · exact (hcr _ b hk').2.2.1 (hfsF _ b hk)
      · exact s6 k k' b hne hk hk'
  · dsimp only [fs'] at hk
    split at hk
    · exact (hcr _ b hk).2.2.1 ((s8 b).2 (.inl ht))
    · exact s7 k b hk ht
end
theorem OpS.lit3 {P : Program} {B : Nat → Prop} {W : En} {o : Oper} {st : St} {KE : V → List (Nat × Nat × Ob) → Prop} {t : TypeId} {len : Nat} {parts : Array (Nat × Operand)} {xs : List Operand} {y ye : Ty} {e es eb site ep : Nat} {zs : List V} {ts : List T} {ks : List (Nat × Nat)} {d0 d fl : Bool} {els : List (List T)} {kl : List (Nat × Nat × Ob)}
    (ho : o.op = .buildSlice t len parts) (hd : o.dst = some site) (hparts : parts.toList = (xs.zipIdx 0).map fun p => (p.2, p.1)) (hlen : xs.length = len) (hy : tinfo P t = some y) (hk : y.k = .slice e es eb) (hye : tinfo P e = some ye) (hz : ye.zero = some zs) (hzl : zs.length = es) (hes : Nat.blt 0 es = true) (hsm : Nat.ble (len * es) 16777216 = true)
    (hsto : (xs.map st.ev).all (fun v => (cellsV v).all V.sto && Nat.beq (cellsV v).length es) = true) (hcv : cvt (look st.objs) ((xs.map st.ev).flatMap cellsV) = some (ts, ks, d0)) (hd0 : d0 = d) (hnd : nodupB (ks.map (·.1)) = true) (hks : (ks.all fun p => !Nat.beq p.1 site) = true)
    (hel : els.flatten = ts ∧ els.length = len) (hu : (els.all fun x => Nat.beq x.length es) = true) (hfl : ts.all T.flat = fl) (hep : nep (look st.objs site) = ep) (hkl : kills ks = kl) (hK : KE (.hnd site ep) ((site, ep, .row fl d e els) :: kl)) : OpS P B W o st KE := OpS.lit ho hd hparts hlen hy hk hye hz hzl hes hsm hsto hcv hd0 hnd hks hel.1 hel.2 hu hfl hep hkl hK
end Go.Proofs.Ytmkpgcahmbancaa.Ab
