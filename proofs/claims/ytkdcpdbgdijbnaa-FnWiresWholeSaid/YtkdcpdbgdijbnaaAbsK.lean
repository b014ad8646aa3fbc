/- What is proved: the calculus of abstract states: a row that owns its lists gives them up, and they are only read from then on.
   Conditions: none beyond those that each lemma names. -/
import Derived.Test.YtkdcpdbgdijbnaaAbsI
namespace Go.Proofs.Ytkdcpdbgdijbnaa.Ab
open Go.RowKit
section
variable {P : Program} {B : Nat → Prop} {W : En} {st : St} {a : Act} {w : World} {Q : Exit → St → Prop}
end
/-! ### A row that is known less well -/
theorem ObR.goes_weak' {P : Program} {w : World} {CC CC' : V → Value → Prop} {Rr Rr' : T → Value → Prop} {v : Value} {F : Nat → Prop} {fl d : Bool} {e : TypeId} {els : List (List T)} (hR : ∀ x u, Rr x u → Rr' x u) (h : ObR P w CC Rr v F (.row fl d e els)) : ObR P w CC' Rr' v F (.row fl d e els) := by
  rcases h with h | ⟨hd, us, h1, h2, h3, h4, h5, h6⟩
  · exact .inl h
  · exact .inr ⟨hd, us, h1, h2, h3, h4, fun k x u hx hu => hR _ _ (h5 k x u hx hu), h6⟩
section
variable {P : Program} {B : Nat → Prop} {W : En} {st : St}
theorem Ghost.row {o ep : Nat} {fl d fl' d' : Bool} {e : TypeId} {els els' : List (List T)} (hl : look st.objs o = some (ep, .row fl d e els)) (h : ∀ w CC Fr v F, ObR P w CC (Rd P w Fr) v F (.row fl d e els) → ObR P w CC (Rd P w Fr) v F (.row fl' d' e els')) :
    Ghost P B W st (st.upds [(o, ep, .row fl' d' e els')]) := fun a w ⟨pl, F, hs⟩ => by
  have hlo : look (updl st.objs [(o, ep, .row fl' d' e els')]) o = some (ep, .row fl' d' e els') := by
    show look ((o, ep, _) :: st.objs) o = _
    rw [look_cons, if_pos rfl]
  obtain ⟨pl', F', h5, _⟩ := hs.many (w' := w) (objs' := updl st.objs [(o, ep, .row fl' d' e els')]) (nv := fun _ => pl o) (nF := fun _ b => F o b) (Nw := fun k => k = o)
    (Kp.refl _ _) (fun _ _ _ => rfl)
    (fun k hk => by
      show look ((o, ep, _) :: st.objs) k = _
      rw [look_cons, if_neg fun e => hk e.symm])
    (fun k hk => by
      subst hk
      refine ⟨ep, _, hlo, fun ep0 ob0' h0 => .inr ?_, fun h0 => (by rw [hl] at h0; cases h0)⟩
      rw [hl] at h0
      cases h0
      exact ⟨rfl, rfl, rfl, rfl⟩)
    (fun k b hk hf => ⟨(hs.range _ _ _ hl hf).2, .inr ⟨o, _, rfl, hl, hf⟩⟩)
    (fun k k' b hk hk' hne' _ _ => hne' (hk.trans hk'.symm))
    (fun lk' pl' Fr' hFr hlp k e' b hk hlk => by
      subst hk
      rw [hlo] at hlk
      cases hlk
      refine h w _ _ _ _ (ObR.goes_weak' ?_ (hs.objs _ _ _ hl))
      intro x u hx
      exact hx.mono (fun b hb => hFr b (.inl hb) hb.2.1 fun i hi hf => hb.2.2 _ _ hl hf) fun _ _ => rfl)
  exact ⟨pl', F', h5⟩
/-- An empty row, say, of which nothing is said about its cells. -/
theorem Ghost.unflat {o ep : Nat} {d : Bool} {e : TypeId} {els : List (List T)} (hl : look st.objs o = some (ep, .row true d e els)) : Ghost P B W st (st.upds [(o, ep, .row false d e els)]) :=
  Ghost.row hl fun w CC Fr v F h => by
    rcases h with ⟨hd, h⟩ | ⟨hd, us, h1, h2, h3, h4, h5, h6⟩
    · refine .inl ⟨hd, ?_⟩
      cases h with
      | flat hf => cases hf
      | lst us fs s1 s2 s3 s4 s5 s6 s7 s8 => exact .lst us fs s1 s2 (fun h => by cases h) s4 s5 s6 s7 s8
    · exact .inr ⟨hd, us, h1, h2, fun h => (by cases h), h4, h5, h6⟩
end
/-! ### Cells that are nil, as empty lists -/
def NilR (x y : T) : Prop := x = y ∨ (x = .nil ∧ ∃ fl e, y = .lst fl e [])
section
variable {P : Program} {B : Nat → Prop} {W : En} {st : St}
end
/-! ### A row that is given up altogether: what a slot holds is read alone from then on -/
section
variable {P : Program} {B : Nat → Prop} {W : En} {st : St}
theorem Ghost.free {o ep s : Nat} {fl d : Bool} {e : TypeId} {els : List (List T)} (hl : look st.objs o = some (ep, .row fl d e els)) (hx : lookT st.tmps s = .hnd o ep) :
    Ghost P B W st ⟨st.n, (s, .t (.lst fl e els)) :: st.tmps, (o, ep + 1, .gone) :: st.objs⟩ := fun a w ⟨pl, F, hs⟩ => by
  have hlo : look ((o, ep + 1, .gone) :: st.objs) o = some (ep + 1, .gone) := by rw [look_cons, if_pos rfl]
  obtain ⟨pl', F', h5, _, hFr, _⟩ := hs.many (w' := w) (objs' := (o, ep + 1, .gone) :: st.objs) (nv := fun _ => .slice none 0 0) (nF := fun _ _ => False) (Nw := fun k => k = o)
    (Kp.refl _ _) (fun _ _ _ => rfl)
    (fun k hk => by rw [look_cons, if_neg fun e => hk e.symm])
    (fun k hk => by
      subst hk
      refine ⟨ep + 1, _, hlo, fun ep0 ob0' h0 => .inl ?_, fun h0 => (by rw [hl] at h0; cases h0)⟩
      rw [hl] at h0
      cases h0
      exact Nat.lt_succ_self _)
    (fun k b hk hf => hf.elim)
    (fun k k' b hk hk' hne' h _ => h)
    (fun lk' pl' Fr' hFr hlp k e' b hk hlk => by
      subst hk
      rw [hlo] at hlk
      cases hlk
      exact fun _ h => h)
  refine ⟨pl', F', { h5 with tmps := fun i hi => ?_ }⟩
  show C2 P w _ _ _ (lookT ((s, .t (.lst fl e els)) :: st.tmps) i) _
  rw [lookT_cons]
  split
  · rename_i e
    subst e
    have h6 := hs.tmps _ hi
    rw [hx] at h6
    have h7 : C0 P w (look st.objs) pl (Free B W.o (look st.objs) F w) (.hnd o ep) (a.tmps.getD s undef) := h6
    have hcv := hs.cvt (vs := [.hnd o ep]) (us := [a.tmps.getD s undef]) (ts := [.lst fl e els]) (ks := [(o, ep)]) (d := d) ⟨rfl, fun k x u hx hu => by
      cases k with
      | zero => cases hx; cases hu; exact h7
      | succ k => simp at hx⟩ (by simp [cvt, hl]) (by simp)
    have h8 := hcv.rd 0 _ _ rfl rfl
    refine h8.mono (fun b hb => ?_) fun _ _ => rfl
    rcases hb with hb | ⟨o', e', y, h1, h2, h3⟩
    · exact hFr b (.inl hb) hb.2.1 fun _ _ h => h
    · simp at h1
      obtain ⟨rfl, rfl⟩ := h1
      exact hFr b (.inr (.inr ⟨_, _, rfl, h2, h3⟩)) (hs.range _ _ _ h2 h3).2 fun _ _ h => h
  · exact h5.tmps i hi
end
/-! ### The end of a function whose result is one of many -/
section
variable {P : Program} {rl : List ResultVar} {objs : List (Nat × Nat × Ob)} {e : Exit} {st : St}
end
/-! ### Fresh results that are read alone from then on -/
def roV0 : V → V
  | .fr fl e els => .t (.lst fl e els)
  | v => v
def roV1 : V → V
  | .agg cs => .agg (cs.map roV0)
  | v => roV0 v
def roV2 : V → V
  | .tup vs => .tup (vs.map roV1)
  | v => roV1 v
section
variable {P : Program} {w : World} {Fr Fr' : Nat → Prop}
theorem R0.ro {F : Nat → Prop} {v : V} {u : Value} (hF : ∀ b, Fr b → Fr' b) (hG : ∀ b, F b → Fr' b) (h : R0 P w Fr F v u) : R0 P w Fr' (fun _ => False) (roV0 v) u := by
  cases v with
  | t x => exact Rd.mono h hF fun _ _ => rfl
  | fr fl e els => exact Ow.rd h hG
  | lit v => exact h
  | _ => exact h
theorem R1.ro {F : Nat → Nat → Prop} {v : V} {u : Value} (hF : ∀ b, Fr b → Fr' b) (hG : ∀ k b, F k b → Fr' b) (h : R1 P w Fr F v u) : R1 P w Fr' (fun _ _ => False) (roV1 v) u := by
  cases v with
  | agg cs =>
    obtain ⟨us, h1, h2, h3⟩ := h
    refine ⟨us, h1, by rw [List.length_map]; exact h2, fun k v x hv hx => ?_⟩
    rw [List.getElem?_map] at hv
    obtain ⟨v0, hv0, rfl⟩ := Option.map_eq_some_iff.1 hv
    exact R0.ro hF (hG k) (h3 k v0 x hv0 hx)
  | fr fl e els => exact R0.ro (v := .fr fl e els) hF (hG 0) h
  | t x => exact R0.ro (v := .t x) hF (hG 0) h
  | lit x => exact h
  | _ => exact h
theorem R2.ro {F : Nat → Nat → Nat → Prop} {v : V} {u : Value} (hF : ∀ b, Fr b → Fr' b) (hG : ∀ j k b, F j k b → Fr' b) (h : R2 P w Fr F v u) : R2 P w Fr' (fun _ _ _ => False) (roV2 v) u := by
  cases v with
  | tup vs =>
    obtain ⟨us, h1, h2, h3⟩ := h
    refine ⟨us, h1, by rw [List.length_map]; exact h2, fun k v x hv hx => ?_⟩
    rw [List.getElem?_map] at hv
    obtain ⟨v0, hv0, rfl⟩ := Option.map_eq_some_iff.1 hv
    exact R1.ro hF (hG k) (h3 k v0 x hv0 hx)
  | agg cs => exact R1.ro (v := .agg cs) hF (hG 0) h
  | fr fl e els => exact R1.ro (v := .fr fl e els) hF (hG 0) h
  | t x => exact R1.ro (v := .t x) hF (hG 0) h
  | lit x => exact h
  | _ => exact h
theorem own_ro {r : V} : isOwnV r = true → roV2 r = r := by cases r <;> first | (intro _; rfl) | (intro h; cases h)
theorem own_ro' {r : V} : isOwnV (roV2 r) = isOwnV r := by cases r <;> rfl
theorem AMP.post {f : FuncId} {objs : List (Nat × Nat × Ob)} {as : List V} {α : Type} {O : α → List (Nat × Nat × Ob)} {R : α → V} {Post Post' : α → Prop} (h : AMP P f objs as O R Post) (hp : ∀ x, Post x → Post' x) : AMP P f objs as O R Post' :=
  ⟨h.1, h.2.1, fun w B args pl F hB hE hargs => (h.2.2 w B args pl F hB hE hargs).mono fun _ _ ⟨x, u, pl', F', FF, h1, h2⟩ => ⟨x, u, pl', F', FF, hp x h1, h2⟩⟩
theorem AMP.map {f : FuncId} {objs : List (Nat × Nat × Ob)} {as : List V} {α β : Type} {O : α → List (Nat × Nat × Ob)} {R : α → V} {Post : α → Prop} {O' : β → List (Nat × Nat × Ob)} {R' : β → V} {Post' : β → Prop} (g : α → β) (h : AMP P f objs as O R Post) (hO : ∀ x, O x = O' (g x)) (hR : ∀ x, R x = R' (g x)) (hp : ∀ x, Post x → Post' (g x)) : AMP P f objs as O' R' Post' :=
  ⟨h.1, h.2.1, fun w B args pl F hB hE hargs => (h.2.2 w B args pl F hB hE hargs).mono fun _ _ ⟨x, u, pl', F', FF, h1, h2, h3, h4⟩ => ⟨g x, u, pl', F', FF, hp x h1, h2, h3, by rw [← hO, ← hR]; exact h4⟩⟩
/-- What is fresh in the result is read alone from then on. -/
theorem AMP.ro {f : FuncId} {objs : List (Nat × Nat × Ob)} {as : List V} {α : Type} {O : α → List (Nat × Nat × Ob)} {R : α → V} {Post : α → Prop} (h : AMP P f objs as O R Post) : AMP P f objs as O (fun x => roV2 (R x)) Post := by
  refine ⟨h.1, h.2.1, fun w B args pl F hB hE hargs => (h.2.2 w B args pl F hB hE hargs).mono ?_⟩
  rintro e w' ⟨x, u, pl', F', FF, hp, he, hk, hm⟩
  have hFr : ∀ b, FrM B (En.o ⟨w, MSet objs F, objs, pl⟩) w' (look (O x)) F' FF b → FrM B (En.o ⟨w, MSet objs F, objs, pl⟩) w' (look (O x)) F' (fun _ _ _ => False) b := fun b hb => ⟨hb.1, hb.2.1, hb.2.2.1, fun _ _ h => h⟩
  have hG : ∀ j k b, FF j k b → FrM B (En.o ⟨w, MSet objs F, objs, pl⟩) w' (look (O x)) F' (fun _ _ _ => False) b := fun j k b hb => ⟨.inr (hm.rangeF j k b hb).1, (hm.rangeF j k b hb).2, fun o y ho hf => hm.apartM o y j k b ho hb hf, fun _ _ h => h⟩
  refine ⟨x, u, pl', F', fun _ _ _ => False, hp, he, hk, hm.lks, fun o ep ob ho => ?_, ?_, hm.range, fun _ _ _ h => h.elim, hm.apart, fun _ _ _ _ _ _ h => h.elim, fun _ _ _ _ _ _ h => h.elim⟩
  · exact (hm.obs o ep ob ho).goes_weak (fun y u _ hc => hc.weak hFr fun _ _ => rfl) (fun y u hr => hr.mono hFr fun _ _ => rfl)
  · have hr := hm.res
    unfold R2m at hr ⊢
    rw [own_ro']
    split
    · rename_i ho
      rw [if_pos ho] at hr
      show C0 _ _ _ _ _ (roV2 (R x)) u
      rw [own_ro ho]
      exact hr.weak hFr fun _ _ => rfl
    · rename_i ho
      rw [if_neg ho] at hr
      exact hr.ro hFr hG
end
/-! ### Objects that go over into a row's cells -/
section
variable {P : Program} {B : Nat → Prop} {W : En} {o : Oper} {st : St} {KE : V → List (Nat × Nat × Ob) → Prop}
end
theorem OpS.lit3 {P : Program} {B : Nat → Prop} {W : En} {o : Oper} {st : St} {KE : V → List (Nat × Nat × Ob) → Prop} {t : TypeId} {len : Nat} {parts : Array (Nat × Operand)} {xs : List Operand} {y ye : Ty} {e es eb site ep : Nat} {zs : List V} {ts : List T} {ks : List (Nat × Nat)} {d0 d fl : Bool} {els : List (List T)} {kl : List (Nat × Nat × Ob)}
    (ho : o.op = .buildSlice t len parts) (hd : o.dst = some site) (hparts : parts.toList = (xs.zipIdx 0).map fun p => (p.2, p.1)) (hlen : xs.length = len) (hy : tinfo P t = some y) (hk : y.k = .slice e es eb) (hye : tinfo P e = some ye) (hz : ye.zero = some zs) (hzl : zs.length = es) (hes : Nat.blt 0 es = true) (hsm : Nat.ble (len * es) 16777216 = true)
    (hsto : (xs.map st.ev).all (fun v => (cellsV v).all V.sto && Nat.beq (cellsV v).length es) = true) (hcv : cvt (look st.objs) ((xs.map st.ev).flatMap cellsV) = some (ts, ks, d0)) (hd0 : d0 = d) (hnd : nodupB (ks.map (·.1)) = true) (hks : (ks.all fun p => !Nat.beq p.1 site) = true)
    (hel : els.flatten = ts ∧ els.length = len) (hu : (els.all fun x => Nat.beq x.length es) = true) (hfl : ts.all T.flat = fl) (hep : nep (look st.objs site) = ep) (hkl : kills ks = kl) (hK : KE (.hnd site ep) ((site, ep, .row fl d e els) :: kl)) : OpS P B W o st KE := OpS.lit ho hd hparts hlen hy hk hye hz hzl hes hsm hsto hcv hd0 hnd hks hel.1 hel.2 hu hfl hep hkl hK
end Go.Proofs.Ytkdcpdbgdijbnaa.Ab
