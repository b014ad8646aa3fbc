/- What is proved: the calculus of abstract states: lists of operations, code, loops, functions.
   Conditions: none beyond those that each lemma names. -/
import Derived.Test.YtmkpgcahmbancaaAbs5
import Derived.Tactics
namespace Go.Proofs.Ytmkpgcahmbancaa.Ab
set_option linter.unusedSimpArgs false
set_option linter.unusedVariables false
open Go.RowKit

/-! ### Lists of operations -/
def aL (P : Program) (B : Nat → Prop) (W : En) (ops : Array Oper) (l : List Oper) (K : St → Prop) (st : St) : Prop :=
  ∀ a w, Sim P B W st a w → ∀ Q : Exit → Act → World → Prop, (∀ st' a' w', Sim P B W st' a' w' → K st' → Q .normal a' w') → wpList P ops Q l a w
section
variable {P : Program} {B : Nat → Prop} {W : En} {ops : Array Oper} {l : List Oper} {K : St → Prop} {st : St} {o : Oper}
theorem OpS.run {KE : V → List (Nat × Nat × Ob) → Prop} (h : OpS P B W o st KE) (a : Act) (w : World) (hs : Sim P B W st a w) (next : Act → World → Prop) (Q : Exit → Act → World → Prop) (hn : ∀ v upd a' w', Sim P B W ((st.upds upd).put o.dst v) a' w' → KE v upd → next a' w') : o.wp P a w next Q := by
  obtain ⟨pl, F, hs⟩ := hs
  exact h a w pl F hs next Q fun v upd a' w' pl' F' h1 _ h2 => hn v upd a' w' ⟨pl', F', h1⟩ h2
theorem aL.nil {st' : St} (h0 : st = st') (h : K st') : aL P B W ops [] K st := fun a w hs Q hQ => hQ st a w hs (h0 ▸ h)
theorem aL.cons {d : Option Tmp} (hg : o.guard = none) (hd : o.dst = d) (h : OpS P B W o st fun v upd => aL P B W ops l K ((st.upds upd).put d v)) : aL P B W ops (o :: l) K st := fun a w hs Q hQ => by
  subst hd
  exact wpList_plain hg fun K' hK' => h.run a w hs K' Q fun v upd a' w' hs' hk => hK' _ _ (hk a' w' hs' Q hQ)
theorem yield_at {a : Act} {w : World} (hs : Sim P B W st a w) {j d : Nat} (hd : (ops[j]?).bind (·.dst) = some d) {b : Bool} (hv : st.ev (.tmp d) = .t (.bool b)) : yielded ops a.tmps j = some b := by
  obtain ⟨pl, F, hs⟩ := hs
  have h1 := hs.bool_at (x := .tmp d) hv
  have h2 : a.tmps.getD d undef = .bool b := h1
  unfold yielded
  rw [hd]
  rw [Array.getD_eq_getD_getElem?] at h2
  cases h3 : a.tmps[d]? with
  | none => rw [h3] at h2; cases h2
  | some u => rw [h3] at h2; simp only [Option.getD_some] at h2; subst h2; simp [h3]
theorem yield_not {a : Act} {w : World} (hs : Sim P B W st a w) {j d : Nat} (hd : (ops[j]?).bind (·.dst) = some d) (hv : st.ev (.tmp d) = .lit undef) : yielded ops a.tmps j = none := by
  obtain ⟨pl, F, hs⟩ := hs
  have h1 := hs.ev (.tmp d)
  rw [hv] at h1
  have h2 : a.tmps.getD d undef = undef := h1
  unfold yielded
  rw [hd]
  rw [Array.getD_eq_getD_getElem?] at h2
  cases h3 : a.tmps[d]? with
  | none => simp [h3]
  | some u => rw [h3] at h2; simp only [Option.getD_some] at h2; subst h2; simp [h3, undef]
theorem Sim.undef_ {a : Act} {w : World} (hs : Sim P B W st a w) (d : Option Tmp) : Sim P B W (st.put d (.lit undef)) (a.put d undef) w := by
  obtain ⟨pl, F, hs⟩ := hs
  exact ⟨pl, F, hs.put (v := .lit undef) rfl d⟩
/-- A guarded operation. -/
theorem aL.guard2 {j d : Nat} {want b : Bool} {dd : Option Tmp} (hg : o.guard = some (j, want)) (hdd : o.dst = dd) (hd : (ops[j]?).bind (·.dst) = some d) (hv : st.ev (.tmp d) = .t (.bool b))
    (h1 : b = true → aL P B W ops (o :: l) K st) (h2 : b = false → aL P B W ops (o :: l) K st) : aL P B W ops (o :: l) K st := by
  cases b
  · exact h2 rfl
  · exact h1 rfl
theorem aL.guard {j d : Nat} {want b : Bool} (hg : o.guard = some (j, want)) (hd : (ops[j]?).bind (·.dst) = some d) (hv : st.ev (.tmp d) = .t (.bool b))
    (h1 : b = want → OpS P B W o st fun v upd => aL P B W ops l K ((st.upds upd).put o.dst v)) (h2 : b = (!want) → aL P B W ops l K (st.put o.dst (.lit undef))) : aL P B W ops (o :: l) K st := fun a w hs Q hQ => by
  have hy := yield_at hs hd hv
  unfold wpList
  by_cases hb : b = want
  · subst hb
    rw [if_pos (by simp [Region.wanted, hg, hy])]
    exact .inl ((h1 rfl).run a w hs _ Q fun v upd a' w' hs' hk => hk a' w' hs' Q hQ)
  · rw [if_neg (by simp [Region.wanted, hg, hy, hb])]
    exact h2 (by cases b <;> cases want <;> simp_all) _ _ (hs.undef_ _) Q hQ
theorem aL.guard_d {j d : Nat} {want : Bool} {p : Prop} [Decidable p] {dd : Option Tmp} (hg : o.guard = some (j, want)) (hdd : o.dst = dd) (hd : (ops[j]?).bind (·.dst) = some d) (hv : st.ev (.tmp d) = .t (.bool (decide p)))
    (h1 : p → aL P B W ops (o :: l) K st) (h2 : ¬ p → aL P B W ops (o :: l) K st) : aL P B W ops (o :: l) K st := by
  by_cases hp : p
  · exact h1 hp
  · exact h2 hp
theorem aL.guard_yes {j d : Nat} {want b : Bool} {dd : Option Tmp} (hg : o.guard = some (j, want)) (hdd : o.dst = dd) (hd : (ops[j]?).bind (·.dst) = some d) (hv : st.ev (.tmp d) = .t (.bool b)) (hb : b = want)
    (h1 : OpS P B W o st fun v upd => aL P B W ops l K ((st.upds upd).put dd v)) : aL P B W ops (o :: l) K st := by
  subst hdd
  exact aL.guard hg hd hv (fun _ => h1) fun h => by subst hb; cases b <;> cases h
theorem aL.guard_no {j d : Nat} {want b : Bool} {dd : Option Tmp} (hg : o.guard = some (j, want)) (hdd : o.dst = dd) (hd : (ops[j]?).bind (·.dst) = some d) (hv : st.ev (.tmp d) = .t (.bool b)) (hb : b = !want)
    (h2 : aL P B W ops l K (st.put dd (.lit undef))) : aL P B W ops (o :: l) K st := by
  subst hdd
  exact aL.guard hg hd hv (fun h => by subst hb; cases want <;> cases h) fun _ => h2
theorem aL.guard_nt {j d : Nat} {b : Bool} {dd : Option Tmp} (hg : o.guard = some (j, true)) (hdd : o.dst = dd) (hd : (ops[j]?).bind (·.dst) = some d) (hv : st.ev (.tmp d) = .t (.bool b)) (hb : b = false)
    (h2 : aL P B W ops l K (st.put dd (.lit undef))) : aL P B W ops (o :: l) K st := aL.guard_no hg hdd hd hv hb h2
theorem aL.guard_nf {j d : Nat} {b : Bool} {dd : Option Tmp} (hg : o.guard = some (j, false)) (hdd : o.dst = dd) (hd : (ops[j]?).bind (·.dst) = some d) (hv : st.ev (.tmp d) = .t (.bool b)) (hb : b = true)
    (h2 : aL P B W ops l K (st.put dd (.lit undef))) : aL P B W ops (o :: l) K st := aL.guard_no hg hdd hd hv hb h2
theorem aL.guard_not {j d : Nat} {want : Bool} {dd : Option Tmp} (hg : o.guard = some (j, want)) (hdd : o.dst = dd) (hd : (ops[j]?).bind (·.dst) = some d) (hv : st.ev (.tmp d) = .lit undef)
    (h2 : aL P B W ops l K (st.put dd (.lit undef))) : aL P B W ops (o :: l) K st := fun a w hs Q hQ => by
  subst hdd
  have hy := yield_not hs hd hv
  unfold wpList
  rw [if_neg (by simp [Region.wanted, hg, hy])]
  exact h2 _ _ (hs.undef_ _) Q hQ
end

/-! ### Code -/
def aW (P : Program) (B : Nat → Prop) (W : En) (c : Code) (Q : Exit → St → Prop) (st : St) : Prop := ∀ a w, Sim P B W st a w → c.wp P (fun e a w => ∃ st', Sim P B W st' a w ∧ Q e st') a w
def thenQ (next : St → Prop) (Q : Exit → St → Prop) : Exit → St → Prop
  | .normal, st => next st
  | e, st => Q e st
def blockQ (id : Nat) (Q : Exit → St → Prop) : Exit → St → Prop
  | .exit id', st => match Nat.beq id' id with | true => Q .normal st | false => Q (.exit id') st
  | e, st => Q e st
section
variable {P : Program} {B : Nat → Prop} {W : En} {Q : Exit → St → Prop} {st : St}
theorem aW.skip (h : Q .normal st) : aW P B W .skip Q st := fun a w hs => wp_skip ⟨st, hs, h⟩
theorem aW.ret (h : Q .ret st) : aW P B W .ret Q st := fun a w hs => wp_ret ⟨st, hs, h⟩
theorem aW.exit {id : Nat} (h : Q (.exit id) st) : aW P B W (.exit id) Q st := fun a w hs => wp_exit ⟨st, hs, h⟩
theorem aW.seq {x y : Code} (h : aW P B W x (thenQ (aW P B W y Q) Q) st) : aW P B W (.seq x y) Q st := fun a w hs =>
  wp_seq (wp_mono (h a w hs) fun e a w ⟨st', hs', hq⟩ => by
    cases e with
    | normal => exact hq a w hs'
    | _ => exact ⟨st', hs', hq⟩)
theorem aW.mono {c : Code} {Q' : Exit → St → Prop} (h : aW P B W c Q st) (hq : ∀ e st, Q e st → Q' e st) : aW P B W c Q' st := fun a w hs => wp_mono (h a w hs) fun _ _ _ ⟨st', hs', hq'⟩ => ⟨st', hs', hq _ _ hq'⟩
theorem aW.cond {c : Operand} {x y : Code} {b : Bool} (hc : st.ev c = .t (.bool b)) (h1 : b = true → aW P B W x Q st) (h2 : b = false → aW P B W y Q st) : aW P B W (.cond c x y) Q st := fun a w hs => by
  obtain ⟨pl, F, hs'⟩ := hs
  have h3 := hs'.bool_at hc
  cases b
  · exact wp_cond h3 (h2 rfl a w ⟨pl, F, hs'⟩)
  · exact wp_cond h3 (h1 rfl a w ⟨pl, F, hs'⟩)
theorem aW.cond_t {c : Operand} {x y : Code} {b : Bool} (hc : st.ev c = .t (.bool b)) (hb : b = true) (h1 : aW P B W x Q st) : aW P B W (.cond c x y) Q st := aW.cond hc (fun _ => h1) fun h => by rw [hb] at h; cases h
theorem aW.cond_f {c : Operand} {x y : Code} {b : Bool} (hc : st.ev c = .t (.bool b)) (hb : b = false) (h1 : aW P B W y Q st) : aW P B W (.cond c x y) Q st := aW.cond hc (fun h => by rw [hb] at h; cases h) fun _ => h1
theorem aW.cond_d {c : Operand} {x y : Code} {p : Prop} [Decidable p] (hc : st.ev c = .t (.bool (decide p))) (h1 : p → aW P B W x Q st) (h2 : ¬ p → aW P B W y Q st) : aW P B W (.cond c x y) Q st := aW.cond hc (fun h => h1 (of_decide_eq_true h)) fun h => h2 (of_decide_eq_false h)
theorem aW.block {id : Nat} {c : Code} (h : aW P B W c (blockQ id Q) st) : aW P B W (.block id c) Q st := fun a w hs =>
  wp_block (wp_mono (h a w hs) fun e a w ⟨st', hs', hq⟩ => by
    cases e with
    | exit id' =>
      show if id' = id then _ else _
      have hq' : match Nat.beq id' id with | true => Q .normal st' | false => Q (.exit id') st' := hq
      split
      · rename_i h; subst h; rw [Nat.beq_refl] at hq'; exact ⟨st', hs', hq'⟩
      · rename_i h
        cases hb : Nat.beq id' id with
        | true => exact absurd (Nat.eq_of_beq_eq_true hb) h
        | false => rw [hb] at hq'; exact ⟨st', hs', hq'⟩
    | _ => exact ⟨st', hs', hq⟩)
theorem aW.region {id : Nat} {l : List Oper} (h : aL P B W l.toArray l (Q .normal) st) : aW P B W (.region id l.toArray false) Q st := fun a w hs =>
  wp_region_lit (h a w hs _ fun st' a' w' hs' hq => ⟨st', hs', hq⟩)

/-! ### Weaker states -/
def leT (n : Nat) (r : List (Nat × V)) : List (Nat × V) → Prop
  | [] => True
  | (i, v) :: r' => lookT r i = v ∧ leT n r r'
theorem leT_at {n : Nat} {r : List (Nat × V)} : ∀ {r' : List (Nat × V)}, leT n r r' → ∀ i, lookT r' i = .junk ∨ ∃ v, (i, v) ∈ r' ∧ lookT r' i = v ∧ lookT r i = v
  | [], _, i => .inl rfl
  | (j, v) :: r', h, i => by
    rw [lookT_cons]
    by_cases hj : j = i
    · subst hj
      rw [if_pos rfl]
      exact .inr ⟨v, by simp, rfl, h.1⟩
    · rw [if_neg hj]
      rcases leT_at h.2 i with h1 | ⟨v', h1, h2⟩
      · exact .inl h1
      · exact .inr ⟨v', by simp [h1], h2⟩
/-- Objects that a value names. -/
def ids0 : V → List Nat
  | .hnd o _ => [o]
  | .ptr o _ _ _ => [o]
  | .view o _ _ _ => [o]
  | _ => []
def ids1 : V → List Nat
  | .agg cs => cs.flatMap ids0
  | v => ids0 v
def ids2 : V → List Nat
  | .tup vs => vs.flatMap ids1
  | v => ids1 v
def idsOb : Ob → List Nat
  | .box _ cs => cs.flatMap ids0
  | .hole _ _ _ x => ids0 x
  | _ => []
/-- st' says less than st: some slots are forgotten, some objects are dropped that nothing names any more. -/
structure Le (st st' : St) : Prop where
  n : st'.n = st.n
  tmps : ∀ i, lookT st'.tmps i = .junk ∨ ∃ v, (i, v) ∈ st'.tmps ∧ lookT st'.tmps i = v ∧ lookT st.tmps i = v
  objs : ∀ o x, look st'.objs o = some x → look st.objs o = some x
  closed : ∀ o, (o ∈ st'.tmps.flatMap (fun p => ids2 p.2) ∨ ∃ i e ob, look st'.objs i = some (e, ob) ∧ o ∈ idsOb ob) → ∃ x, look st'.objs o = some x
def leO (objs : List (Nat × Nat × Ob)) : List (Nat × Nat × Ob) → Prop
  | [] => True
  | (o, e, b) :: r => look objs o = some (e, b) ∧ leO objs r
theorem leO_at {objs : List (Nat × Nat × Ob)} : ∀ {l : List (Nat × Nat × Ob)}, leO objs l → ∀ o x, look l o = some x → look objs o = some x
  | [], _, o, x, h => by cases h
  | (i, e, b) :: r, hl, o, x, h => by
    rw [look_cons] at h
    split at h
    · rename_i hi; subst hi; rw [← h]; exact hl.1
    · exact leO_at hl.2 o x h
theorem look_mem : ∀ {l : List (Nat × Nat × Ob)} {o : Nat} {x : Nat × Ob}, look l o = some x → (o, x.1, x.2) ∈ l
  | [], _, _, h => by cases h
  | (i, e, b) :: r, o, x, h => by
    rw [look_cons] at h
    split at h
    · rename_i hi; subst hi; cases h; simp
    · simp [look_mem h]
theorem look_has : ∀ {l : List (Nat × Nat × Ob)} {o : Nat}, (l.map (·.1)).contains o = true → ∃ x, look l o = some x
  | [], _, h => by simp at h
  | (i, e, b) :: r, o, h => by
    rw [look_cons]
    by_cases hi : i = o
    · exact ⟨_, if_pos hi⟩
    · rw [if_neg hi]
      refine look_has ?_
      simp only [List.map_cons, List.contains_cons, Bool.or_eq_true, beq_iff_eq] at h
      rcases h with h | h
      · exact absurd h.symm hi
      · exact h
def idsAll (st : St) : List Nat := st.tmps.flatMap (fun p => ids2 p.2) ++ st.objs.flatMap (fun p => idsOb p.2.2)
def closedB (st : St) : Bool := (idsAll st).all fun o => (st.objs.map (·.1)).contains o
theorem Le.of {st st' : St} (hn : st'.n = st.n) (ht : leT st.n st.tmps st'.tmps) (ho : leO st.objs st'.objs) (hc : closedB st' = true) : Le st st' :=
  ⟨hn, leT_at ht, leO_at ho, fun o h => by
    have hm : o ∈ idsAll st' := by
      rcases h with h | ⟨i, e, ob, h1, h2⟩
      · exact List.mem_append_left _ h
      · exact List.mem_append_right _ (List.mem_flatMap.2 ⟨_, look_mem h1, h2⟩)
    exact look_has (List.all_eq_true.1 hc o hm)⟩
section
variable {a : Act} {w : World} {lk lk' : Nat → Option (Nat × Ob)} {pl : Nat → Value} {Fr Fr' : Nat → Prop}
theorem C0.weak {v : V} {u : Value} (hF : ∀ b, Fr b → Fr' b) (hl : ∀ o ∈ ids0 v, lk' o = lk o) (h : C0 P w lk pl Fr v u) : C0 P w lk' pl Fr' v u := by
  cases v with
  | t x => exact Rd.mono h hF fun _ _ => rfl
  | hnd o ep =>
    obtain ⟨h1, ep', ob, h2, h3⟩ := h
    exact ⟨h1, ep', ob, by rw [hl o (by simp [ids0])]; exact h2, h3⟩
  | ptr o ep i off =>
    obtain ⟨h1, ep', ob, h2, h3⟩ := h
    exact ⟨h1, ep', ob, by rw [hl o (by simp [ids0])]; exact h2, h3⟩
  | view o ep i n =>
    obtain ⟨h1, ep', ob, h2, h3⟩ := h
    exact ⟨h1, ep', ob, by rw [hl o (by simp [ids0])]; exact h2, h3⟩
  | rptr cs off =>
    obtain ⟨ad, h1, h2⟩ := h
    refine ⟨ad, h1, fun j x hx => ?_⟩
    obtain ⟨h3, y, h4, h5⟩ := h2 j x hx
    exact ⟨hF _ h3, y, h4, h5.mono hF fun _ _ => rfl⟩
  | lit => exact h
  | junk => trivial
  | agg => exact h
  | tup => exact h
  | fr => exact h
theorem C1.weak {v : V} {u : Value} (hF : ∀ b, Fr b → Fr' b) (hl : ∀ o ∈ ids1 v, lk' o = lk o) (h : C1 P w lk pl Fr v u) : C1 P w lk' pl Fr' v u := by
  cases v with
  | agg cs =>
    obtain ⟨us, h1, h2, h3⟩ := h
    exact ⟨us, h1, h2, fun k v x hv hx => (h3 k v x hv hx).weak hF fun o ho => hl o (List.mem_flatMap.2 ⟨v, List.mem_of_getElem? hv, ho⟩)⟩
  | _ => unfold C1 at h ⊢; exact C0.weak hF hl h
theorem C2.weak {v : V} {u : Value} (hF : ∀ b, Fr b → Fr' b) (hl : ∀ o ∈ ids2 v, lk' o = lk o) (h : C2 P w lk pl Fr v u) : C2 P w lk' pl Fr' v u := by
  cases v with
  | tup cs =>
    obtain ⟨us, h1, h2, h3⟩ := h
    exact ⟨us, h1, h2, fun k v x hv hx => (h3 k v x hv hx).weak hF fun o ho => hl o (List.mem_flatMap.2 ⟨v, List.mem_of_getElem? hv, ho⟩)⟩
  | _ => unfold C2 at h ⊢; exact C1.weak hF hl h
theorem ObR.goes_weak {P : Program} {CC CC' : V → Value → Prop} {Rr Rr' : T → Value → Prop} {v : Value} {F : Nat → Prop} {ob : Ob} (hC : ∀ x u, (∀ i, i ∈ ids0 x → i ∈ idsOb ob) → CC x u → CC' x u) (hR : ∀ x u, Rr x u → Rr' x u)
    (h : ObR P w CC Rr v F ob) : ObR P w CC' Rr' v F ob := by
  cases ob with
  | box ty cs =>
    obtain ⟨g, us, h1, h2, h3, h4, h5⟩ := h
    exact ⟨g, us, h1, h2, h3, h4, fun k x u hx hu => hC _ _ (fun i hi => List.mem_flatMap.2 ⟨x, List.mem_of_getElem? hx, hi⟩) (h5 k x u hx hu)⟩
  | row fl d e els =>
    rcases h with ⟨hd, h⟩ | ⟨hd, us, h1, h2, h3, h4, h5, h6⟩
    · exact .inl ⟨hd, h⟩
    · exact .inr ⟨hd, us, h1, h2, h3, h4, fun k x u hx hu => hR _ _ (h5 k x u hx hu), h6⟩
  | hole e els q x =>
    obtain ⟨us, fs, h1, h2, h3, h4, h5, h6⟩ := h
    exact ⟨us, fs, h1, h2, h3, h4, fun u hu => hC _ _ (fun i hi => hi) (h5 u hu), h6⟩
  | gone => exact h
theorem SimW.weak {st' : St} {pl : Nat → Value} {F : Nat → Nat → Prop} (hs : SimW P B W st a w pl F) (h : Le st st') : SimW P B W st' a w pl F := by
  have hF : ∀ b, Free B W.o (look st.objs) F w b → Free B W.o (look st'.objs) F w b := fun b hb => ⟨hb.1, hb.2.1, fun o x ho => hb.2.2 o x (h.objs o x ho)⟩
  have hl : ∀ o, (∃ x, look st'.objs o = some x) → look st'.objs o = look st.objs o := fun o ⟨x, hx⟩ => by rw [hx, h.objs o x hx]
  refine ⟨hs.old, by rw [hs.size, h.n], hs.defers, hs.below, fun i hi => ?_, fun o ep ob ho => ?_, fun o x b ho hf => hs.range o x b (h.objs o x ho) hf, fun o o' x x' b hne ho ho' => hs.apart o o' x x' b hne (h.objs o x ho) (h.objs o' x' ho'), fun o ob0 h0 ep ob ho => hs.hist o ob0 h0 ep ob (h.objs o _ ho)⟩
  · rcases h.tmps i with h1 | ⟨v, h1, h2, h3⟩
    · rw [h1]; trivial
    · rw [h2]
      have h4 := hs.tmps i (by rw [← h.n]; exact hi)
      rw [h3] at h4
      exact h4.weak hF fun o ho => hl o (h.closed o (.inl (List.mem_flatMap.2 ⟨(i, v), h1, ho⟩)))
  · have h0 := hs.objs o ep ob (h.objs o _ ho)
    cases ob with
    | box ty cs =>
      obtain ⟨g, us, h1, h2, h3, h4, h5⟩ := h0
      exact ⟨g, us, h1, h2, h3, h4, fun k x u hx hu => (h5 k x u hx hu).weak hF fun i hi => hl i (h.closed i (.inr ⟨o, ep, _, ho, List.mem_flatMap.2 ⟨x, List.mem_of_getElem? hx, hi⟩⟩))⟩
    | row fl d e els => exact h0.goes (fun _ _ => rfl) (CC' := fun _ _ => True) (fun _ _ _ => trivial) (fun _ _ hr => hr.mono hF fun _ _ => rfl)
    | hole e els q x =>
      obtain ⟨us, fs, h1, h2, h3, h4, h5, h6⟩ := h0
      exact ⟨us, fs, h1, h2, h3, h4, fun u hu => (h5 u hu).weak hF fun i hi => hl i (h.closed i (.inr ⟨o, ep, _, ho, hi⟩)), h6⟩
    | gone => exact h0
end
theorem Sim.weak {a : Act} {w : World} {st' : St} (hs : Sim P B W st a w) (h : Le st st') : Sim P B W st' a w := by
  obtain ⟨pl, F, hs⟩ := hs
  exact ⟨pl, F, hs.weak h⟩
theorem aW.weak {c : Code} {st' : St} (h : Le st st') (hw : aW P B W c Q st') : aW P B W c Q st := fun a w hs => hw a w (hs.weak h)
theorem aL.weak {ops : Array Oper} {l : List Oper} {K : St → Prop} {st' : St} (h : Le st st') (hw : aL P B W ops l K st') : aL P B W ops l K st := fun a w hs => hw a w (hs.weak h)

/-! ### Loops -/
theorem aW.loop {c : Code} {α : Type} (S : α → St) (I : α → Prop) (μ : α → Nat) (x0 : α) (h0 : I x0) (hst : Le st (S x0))
    (round : ∀ x, I x → aW P B W c (thenQ (fun st' => ∃ x', I x' ∧ μ x' < μ x ∧ Le st' (S x')) Q) (S x)) : aW P B W (.loop c) Q st := fun a w hs => by
  intro b k cs
  have key : ∀ (n : Nat) (x : α), μ x = n → I x → ∀ a w, Sim P B W (S x) a w →
      ∃ e a' w', (∃ st', Sim P B W st' a' w' ∧ Q e st') ∧ Arrives P (lone (b.at a (.code c :: .inLoop c :: k)) cs w) b k cs e a' w' := by
    intro n
    induction n using Nat.strongRecOn with
    | _ n ih =>
      intro x hx hI a w hS
      obtain ⟨e, a₁, w₁, ⟨st', hs', hq⟩, harr⟩ := round x hI a w hS b (.inLoop c :: k) cs
      cases e with
      | normal =>
        obtain ⟨x', hI', hlt, hle⟩ := hq
        obtain ⟨e₂, a₂, w₂, hq₂, harr₂⟩ := ih (μ x') (hx ▸ hlt) x' rfl hI' a₁ w₁ (hs'.weak hle)
        exact ⟨e₂, a₂, w₂, hq₂, .of_steps (Steps.trans harr (.one step_inLoop)) harr₂⟩
      | exit id => exact ⟨_, a₁, w₁, ⟨st', hs', hq⟩, .pass (x := .inLoop c) rfl (fun _ _ => .inl (by simp)) harr⟩
      | goto l => exact ⟨_, a₁, w₁, ⟨st', hs', hq⟩, .pass (x := .inLoop c) rfl (fun _ _ => .inl (by simp)) harr⟩
      | ret => exact ⟨_, a₁, w₁, ⟨st', hs', hq⟩, .pass (x := .inLoop c) rfl (fun _ _ => .inl (by simp)) harr⟩
      | panic ch => exact ⟨_, a₁, w₁, ⟨st', hs', hq⟩, .pass (x := .inLoop c) rfl (fun _ _ => .inl (by simp)) harr⟩
      | outgrown => exact ⟨_, a₁, w₁, ⟨st', hs', hq⟩, .pass (x := .inLoop c) rfl (fun _ _ => .inl (by simp)) harr⟩
  obtain ⟨e, a', w', hq, harr⟩ := key _ x0 rfl h0 a w (hs.weak hst)
  exact ⟨e, a', w', hq, .of_steps (.one step_loop) harr⟩
theorem aW.loopF {c : Code} {α : Type} {n : Nat} (hn : st.n = n) (var : α → List (Nat × V)) (fx : List (Nat × V)) (ob : α → List (Nat × Nat × Ob)) (fo : List (Nat × Nat × Ob)) (I : α → Prop) (μ : α → Nat) (x0 : α) (h0 : I x0) (hst : Le st ⟨n, var x0 ++ fx, ob x0 ++ fo⟩)
    (round : ∀ x, I x → aW P B W c (thenQ (fun st' => ∃ x', I x' ∧ μ x' < μ x ∧ Le st' ⟨n, var x' ++ fx, ob x' ++ fo⟩) Q) ⟨n, var x ++ fx, ob x ++ fo⟩) : aW P B W (.loop c) Q st :=
  aW.loop (fun x => ⟨n, var x ++ fx, ob x ++ fo⟩) I μ x0 h0 hst round
end

/-! ### Functions -/
def Giv0 (lk : Nat → Option (Nat × Ob)) : V → V → Prop
  | .t x, .t y => x = y ∨ (x = .nil ∧ ∃ fl e, y = .lst fl e [])
  | .t x, .fr _ _ els => x = .nil ∧ els = []
  | .hnd o ep, .fr fl e els => lk o = some (ep, .row fl true e els)
  | .hnd o ep, .t y => ∃ fl d e els, lk o = some (ep, .row fl d e els) ∧ y = .lst fl e els
  | .lit v, .lit v' => v = v'
  | _, _ => False
def GivL (lk : Nat → Option (Nat × Ob)) : List V → List V → Prop
  | [], [] => True
  | c :: cs, d :: ds => Giv0 lk c d ∧ GivL lk cs ds
  | _, _ => False
def Giv1 (lk : Nat → Option (Nat × Ob)) : V → V → Prop
  | .agg cs, .agg ds => GivL lk cs ds
  | v, r => Giv0 lk v r
def Giv1L (lk : Nat → Option (Nat × Ob)) : List V → List V → Prop
  | [], [] => True
  | c :: cs, d :: ds => Giv1 lk c d ∧ Giv1L lk cs ds
  | _, _ => False
def Giv2 (lk : Nat → Option (Nat × Ob)) : V → V → Prop
  | .tup cs, .tup ds => Giv1L lk cs ds
  | v, r => Giv1 lk v r
theorem givL_at {lk : Nat → Option (Nat × Ob)} : ∀ {cs ds : List V}, GivL lk cs ds → cs.length = ds.length ∧ ∀ (k : Nat) (c d : V), cs[k]? = some c → ds[k]? = some d → Giv0 lk c d
  | [], [], _ => ⟨rfl, fun k c d h => by simp at h⟩
  | [], _ :: _, h => h.elim
  | _ :: _, [], h => h.elim
  | c :: cs, d :: ds, h => by
    have ih := givL_at h.2
    refine ⟨by simp [ih.1], fun k x y hx hy => ?_⟩
    cases k with
    | zero => simp at hx hy; subst hx hy; exact h.1
    | succ k => exact ih.2 k x y (by simpa using hx) (by simpa using hy)
theorem giv1L_at {lk : Nat → Option (Nat × Ob)} : ∀ {cs ds : List V}, Giv1L lk cs ds → cs.length = ds.length ∧ ∀ (k : Nat) (c d : V), cs[k]? = some c → ds[k]? = some d → Giv1 lk c d
  | [], [], _ => ⟨rfl, fun k c d h => by simp at h⟩
  | [], _ :: _, h => h.elim
  | _ :: _, [], h => h.elim
  | c :: cs, d :: ds, h => by
    have ih := giv1L_at h.2
    refine ⟨by simp [ih.1], fun k x y hx hy => ?_⟩
    cases k with
    | zero => simp at hx hy; subst hx hy; exact h.1
    | succ k => exact ih.2 k x y (by simpa using hx) (by simpa using hy)
theorem nodup_flatMap_idx {α β : Type} {f : α → List β} : ∀ {l : List α} (_ : (l.flatMap f).Nodup) {i j : Nat} {a b : α} {x : β}, l[i]? = some a → l[j]? = some b → x ∈ f a → x ∈ f b → i = j
  | [], _, i, _, a, _, _, h, _, _, _ => by simp at h
  | c :: r, hn, i, j, a, b, x, hi, hj, ha, hb => by
    rw [List.flatMap_cons, List.nodup_append] at hn
    obtain ⟨_, h2, h3⟩ := hn
    cases i with
    | zero =>
      cases j with
      | zero => rfl
      | succ j =>
        simp at hi hj
        subst hi
        exact absurd rfl (h3 x ha x (List.mem_flatMap.2 ⟨b, List.mem_of_getElem? hj, hb⟩))
    | succ i =>
      cases j with
      | zero =>
        simp at hi hj
        subst hj
        exact absurd rfl (h3 x hb x (List.mem_flatMap.2 ⟨a, List.mem_of_getElem? hi, ha⟩))
      | succ j => exact congrArg (· + 1) (nodup_flatMap_idx h2 (i := i) (j := j) (by simpa using hi) (by simpa using hj) ha hb)
theorem cell1_ids {v : V} {k : Nat} {o ep : Nat} (h : cell1 v k = some (.hnd o ep)) : o ∈ ids1 v := by
  by_cases hv : ∃ cs, v = .agg cs
  · obtain ⟨cs, rfl⟩ := hv
    exact List.mem_flatMap.2 ⟨_, List.mem_of_getElem? h, by simp [ids0]⟩
  · rw [cell1_ne (v := v) (fun cs e => hv ⟨cs, e⟩)] at h
    split at h
    · have e1 := Option.some.inj h
      subst e1
      simp [ids1, ids0]
    · cases h
theorem cell1_uniq {v : V} (hn : (ids1 v).Nodup) {k k' o ep ep' : Nat} (h : cell1 v k = some (.hnd o ep)) (h' : cell1 v k' = some (.hnd o ep')) : k = k' := by
  by_cases hv : ∃ cs, v = .agg cs
  · obtain ⟨cs, rfl⟩ := hv
    exact nodup_flatMap_idx (f := ids0) (x := o) hn h h' (by simp [ids0]) (by simp [ids0])
  · have hne : ∀ cs, v ≠ .agg cs := fun cs e => hv ⟨cs, e⟩
    rw [cell1_ne hne] at h h'
    split at h
    · split at h'
      · omega
      · cases h'
    · cases h
theorem cellR_uniq {v : V} (hn : (ids2 v).Nodup) {j k j' k' o ep ep' : Nat} (h : cellR v j k = some (.hnd o ep)) (h' : cellR v j' k' = some (.hnd o ep')) : j = j' ∧ k = k' := by
  by_cases hr : ∃ vs, v = .tup vs
  · obtain ⟨vs, rfl⟩ := hr
    obtain ⟨x, h1, h2⟩ := cellR_tup h
    obtain ⟨x', h1', h2'⟩ := cellR_tup h'
    have e := nodup_flatMap_idx (f := ids1) hn h1 h1' (cell1_ids h2) (cell1_ids h2')
    subst e
    rw [h1] at h1'
    cases h1'
    refine ⟨rfl, cell1_uniq ?_ h2 h2'⟩
    have hm := List.mem_of_getElem? h1
    have hn' : (vs.flatMap ids1).Nodup := hn
    obtain ⟨l1, l2, rfl⟩ := List.append_of_mem hm
    rw [List.flatMap_append, List.nodup_append, List.flatMap_cons, List.nodup_append] at hn'
    exact hn'.2.1.1
  · have hne : ∀ vs, v ≠ .tup vs := fun vs e => hr ⟨vs, e⟩
    obtain ⟨rfl, h2⟩ := (cellR_1 hne).1 h
    obtain ⟨rfl, h2'⟩ := (cellR_1 hne).1 h'
    have e0 : ids2 v = ids1 v := by cases v <;> first | rfl | exact absurd rfl (hne _)
    rw [e0] at hn
    exact ⟨rfl, cell1_uniq hn h2 h2'⟩
section
variable {P : Program} {B : Nat → Prop} {W : En} {st : St} {a : Act} {w : World} {pl : Nat → Value} {F : Nat → Nat → Prop}
/-- The blocks of a result's cell. -/
def resF (F : Nat → Nat → Prop) : Option V → Option V → Nat → Prop
  | some (.hnd o _), some (.fr ..), b => F o b
  | _, _, _ => False
theorem SimW.giv0 (h : SimW P B W st a w pl F) {v r : V} {u : Value} {FF : Nat → Prop} {Fr : Nat → Prop} (hv : C0 P w (look st.objs) pl (Free B W.o (look st.objs) F w) v u) (hg : Giv0 (look st.objs) v r) (hFF : ∀ b, FF b ↔ resF F (some v) (some r) b)
    (h1 : ∀ b, Free B W.o (look st.objs) F w b → Fr b) (h2 : ∀ o ep y x b, v = .hnd o ep → r = .t y → look st.objs o = some x → F o b → Fr b) : R0 P w Fr FF r u := by
  cases v with
  | t x =>
    cases r with
    | t y =>
      rcases hg with rfl | ⟨rfl, fl, e, rfl⟩
      · exact Rd.mono hv h1 fun _ _ => rfl
      · have hv' : Rd P w (Free B W.o (look st.objs) F w) .nil u := hv
        cases hv'
        exact .lst (els := []) [] (Nat.le_refl _) (by simp [maxLen]) (by simp) (by simp) rfl (fun h => absurd rfl h) (fun k x u h => by simp at h)
    | fr fl e els =>
      obtain ⟨rfl, rfl⟩ := hg
      have hv' : Rd P w (Free B W.o (look st.objs) F w) .nil u := hv
      cases hv'
      exact .lst [] (fun _ _ => False) (OwnsR.nil _ _ _) (by simp) (by simp) rfl (fun k x u h => by simp at h) (fun _ _ _ _ h => h.elim) (fun _ _ h => h.elim) fun b => by rw [hFF]; simp [resF, Value.ownBlock]
    | _ => exact hg.elim
  | hnd o ep =>
    cases r with
    | t y =>
      obtain ⟨fl, d, e, els, hl, rfl⟩ := hg
      obtain ⟨_, ep', ob, h2', h3, h4⟩ := hv
      rw [hl] at h2'
      cases h2'
      have hu := (h4 rfl).2
      obtain ⟨us, hp⟩ := row_parts (h.objs o _ _ hl)
      obtain ⟨A, c, g1, g2, g3, g4⟩ := hp.slice
      have hF : ∀ b, F o b → Fr b := fun b hb => h2 o ep _ _ b rfl rfl hl hb
      rw [hu, g1]
      refine Rd.lst us g2 g3 hp.uni hp.flt hp.len (fun hn => ?_) fun k x u hx hv => (hp.rd k x u hx hv).mono (fun b hb => ?_) fun _ _ => rfl
      · obtain ⟨g, off, rfl, g5, _, g6⟩ := g4 hn
        exact ⟨_, rfl, hF _ (hp.top _ g5), fun k u hk => by rw [add_lit0]; exact g6 k u hk⟩
      · rcases hb with hb | hb
        · exact hF b hb
        · exact h1 _ hb
    | fr fl e els =>
      obtain ⟨_, ep', ob, h2', h3, h4⟩ := hv
      have hl : look st.objs o = some (ep, .row fl true e els) := hg
      rw [hl] at h2'
      cases h2'
      have hu := (h4 rfl).2
      rcases h.objs o _ _ hl with ⟨_, h5⟩ | ⟨h5, _⟩
      · have e1 : FF = F o := funext fun b => propext (hFF b)
        show Ow _ _ _ _ FF
        rw [e1, hu]
        exact h5
      · cases h5
    | _ => exact hg.elim
  | lit x =>
    cases r with
    | lit y => cases hg; exact hv
    | _ => exact hg.elim
  | _ => cases r <;> exact hg.elim
theorem SimW.giv_x (h : SimW P B W st a w pl F) {v r : V} {u : Value} (hv : C2 P w (look st.objs) pl (Free B W.o (look st.objs) F w) v u) (hg : Giv2 (look st.objs) v r) (hn : (ids2 v).Nodup) {X : Nat → Prop} (hX : ∀ o, o ∈ ids2 v → ¬ X o) :
    ∃ FF : Nat → Nat → Nat → Prop, R2 P w (fun b => (B b ∨ W.o b) ∧ b < w.heap.size ∧ (∀ o x, X o → look st.objs o = some x → ¬ F o b) ∧ ∀ j k, ¬ FF j k b) FF r u ∧ (∀ j k b, FF j k b → W.o b ∧ b < w.heap.size) ∧
    (∀ j k j' k' b, (j ≠ j' ∨ k ≠ k') → FF j k b → ¬ FF j' k' b) ∧ (∀ o x j k b, X o → look st.objs o = some x → FF j k b → ¬ F o b) ∧ ∀ j k b, FF j k b → ∃ o x, look st.objs o = some x ∧ F o b := by
  let FF : Nat → Nat → Nat → Prop := fun j k => resF F (cellR v j k) (cellR r j k)
  have hFF : ∀ j k b, FF j k b → ∃ o ep fl e els, cellR v j k = some (.hnd o ep) ∧ cellR r j k = some (.fr fl e els) ∧ F o b := fun j k b hb => by
    have hb' : resF F (cellR v j k) (cellR r j k) b := hb
    generalize cellR v j k = x at *
    generalize cellR r j k = y at *
    unfold resF at hb'
    split at hb'
    · exact ⟨_, _, _, _, _, rfl, rfl, hb'⟩
    · exact hb'.elim
  have hlive : ∀ j k o ep, cellR v j k = some (.hnd o ep) → ∃ x, look st.objs o = some x := fun j k o ep hc => by
    have h0 : ∀ {v : V} {u : Value}, C1 P w (look st.objs) pl (Free B W.o (look st.objs) F w) v u → cell1 v k = some (.hnd o ep) → ∃ x, look st.objs o = some x := fun {v u} h1 h2 => by
      by_cases hv' : ∃ cs, v = .agg cs
      · obtain ⟨cs, rfl⟩ := hv'
        obtain ⟨us, _, g1, g2⟩ := h1
        have hlt : k < us.length := by rw [g1]; exact (List.getElem?_eq_some_iff.1 h2).1
        obtain ⟨_, ep', ob, g3, _⟩ := g2 k _ _ h2 (List.getElem?_eq_getElem hlt)
        exact ⟨_, g3⟩
      · rw [cell1_ne (v := v) (fun cs e => hv' ⟨cs, e⟩)] at h2
        split at h2
        · have e1 := Option.some.inj h2
          subst e1
          obtain ⟨_, ep', ob, g3, _⟩ : C0 P w (look st.objs) pl (Free B W.o (look st.objs) F w) (.hnd o ep) u := h1
          exact ⟨_, g3⟩
        · cases h2
    by_cases hr : ∃ vs, v = .tup vs
    · obtain ⟨vs, rfl⟩ := hr
      obtain ⟨x, h1, h2⟩ := cellR_tup hc
      obtain ⟨us, _, g1, g2⟩ := hv
      have hlt : j < us.length := by rw [g1]; exact (List.getElem?_eq_some_iff.1 h1).1
      exact h0 (g2 j x _ h1 (List.getElem?_eq_getElem hlt)) h2
    · have hne : ∀ vs, v ≠ .tup vs := fun vs e => hr ⟨vs, e⟩
      obtain ⟨rfl, h2⟩ := (cellR_1 hne).1 hc
      exact h0 (u := u) (by cases v <;> first | exact hv | exact absurd rfl (hne _)) h2
  have hids : ∀ j k o ep, cellR v j k = some (.hnd o ep) → o ∈ ids2 v := fun j k o ep hc => by
    by_cases hr : ∃ vs, v = .tup vs
    · obtain ⟨vs, rfl⟩ := hr
      obtain ⟨x, h1, h2⟩ := cellR_tup hc
      exact List.mem_flatMap.2 ⟨x, List.mem_of_getElem? h1, cell1_ids h2⟩
    · have hne : ∀ vs, v ≠ .tup vs := fun vs e => hr ⟨vs, e⟩
      have e0 : ids2 v = ids1 v := by cases v <;> first | rfl | exact absurd rfl (hne _)
      rw [e0]
      exact cell1_ids ((cellR_1 hne).1 hc).2
  let Fr : Nat → Prop := fun b => (B b ∨ W.o b) ∧ b < w.heap.size ∧ (∀ o x, X o → look st.objs o = some x → ¬ F o b) ∧ ∀ j k, ¬ FF j k b
  have h1 : ∀ b, Free B W.o (look st.objs) F w b → Fr b := fun b hb => ⟨hb.1, hb.2.1, fun o x _ ho hf => hb.2.2 o x ho hf, fun j k hf => by
    obtain ⟨o, ep, fl, e, els, g1, g2, g3⟩ := hFF j k b hf
    obtain ⟨x, hx⟩ := hlive j k o ep g1
    exact hb.2.2 o x hx g3⟩
  have h2 : ∀ j k o ep y x b, cellR v j k = some (.hnd o ep) → cellR r j k = some (.t y) → look st.objs o = some x → F o b → Fr b := fun j k o ep y x b hc hr hl hb => by
    have hrg := h.range o x b hl hb
    refine ⟨.inr hrg.1, hrg.2, fun o' x' hXo hl' hf => ?_, fun j' k' hf => ?_⟩
    · exact h.apart o o' _ _ b (fun e => hX o (hids j k o ep hc) (by rw [e]; exact hXo)) hl hl' hb hf
    obtain ⟨o', ep', fl, e, els, g1, g2, g3⟩ := hFF j' k' b hf
    by_cases he : o = o'
    · subst he
      obtain ⟨rfl, rfl⟩ := cellR_uniq hn hc g1
      rw [hr] at g2
      cases g2
    · obtain ⟨x', hx'⟩ := hlive j' k' o' ep' g1
      exact h.apart o o' _ _ b he hl hx' hb g3
  have key1 : ∀ {j : Nat} {x y : V} {z : Value}, (∀ k, cellR v j k = cell1 x k) → (∀ k, cellR r j k = cell1 y k) → C1 P w (look st.objs) pl (Free B W.o (look st.objs) F w) x z → Giv1 (look st.objs) x y → R1 P w Fr (FF j) y z := fun {j x y z} e1 e2 hc hg => by
    by_cases hx : ∃ cs, x = .agg cs
    · obtain ⟨cs, rfl⟩ := hx
      cases y with
      | agg ds =>
        obtain ⟨us, rfl, g1, g2⟩ := hc
        obtain ⟨g3, g4⟩ := givL_at hg
        refine ⟨us, rfl, by omega, fun k d z hd hz => ?_⟩
        have hlt : k < cs.length := by rw [g3]; exact (List.getElem?_eq_some_iff.1 hd).1
        have hcell : cs[k]? = some cs[k] := List.getElem?_eq_getElem hlt
        have e1k : cellR v j k = some cs[k] := (e1 k).trans hcell
        have e2k : cellR r j k = some d := (e2 k).trans hd
        exact h.giv0 (g2 k _ _ hcell hz) (g4 k _ _ hcell hd) (fun b => by show resF F (cellR v j k) (cellR r j k) b ↔ _; rw [e1k, e2k]) h1 fun o ep t x b e3 e4 => by
          rw [e3] at e1k
          rw [e4] at e2k
          exact h2 j k o ep t x b e1k e2k
      | _ => exact hg.elim
    · have hnx : ∀ cs, x ≠ .agg cs := fun cs e => hx ⟨cs, e⟩
      have hg0 : Giv0 (look st.objs) x y := by cases x <;> first | exact hg | exact absurd rfl (hnx _)
      have hny : ∀ cs, y ≠ .agg cs := fun cs e => by subst e; cases x <;> exact hg0
      have hc0 : C0 P w (look st.objs) pl (Free B W.o (look st.objs) F w) x z := by cases x <;> first | exact hc | exact absurd rfl (hnx _)
      have e1k : cellR v j 0 = some x := by rw [e1, cell1_ne hnx, if_pos rfl]
      have e2k : cellR r j 0 = some y := by rw [e2, cell1_ne hny, if_pos rfl]
      have h3 := h.giv0 (FF := FF j 0) (Fr := Fr) hc0 hg0 (fun b => by show resF F (cellR v j 0) (cellR r j 0) b ↔ _; rw [e1k, e2k]) h1 fun o ep t x b e3 e4 => by
          rw [e3] at e1k
          rw [e4] at e2k
          exact h2 j 0 o ep t x b e1k e2k
      cases y <;> first | exact h3 | exact absurd rfl (hny _)
  refine ⟨FF, ?_, fun j k b hf => ?_, fun j k j' k' b hne hf hf' => ?_, fun o' x' j k b hXo hl' hf hf' => ?_, fun j k b hf => ?_⟩
  · by_cases hr : ∃ vs, v = .tup vs
    · obtain ⟨vs, rfl⟩ := hr
      cases r with
      | tup ds =>
        obtain ⟨us, rfl, g1, g2⟩ := hv
        obtain ⟨g3, g4⟩ := giv1L_at hg
        refine ⟨us, rfl, by omega, fun j d z hd hz => ?_⟩
        have hlt : j < vs.length := by rw [g3]; exact (List.getElem?_eq_some_iff.1 hd).1
        have hcell : vs[j]? = some vs[j] := List.getElem?_eq_getElem hlt
        have hcr : ∀ {l : List V} {x : V}, l[j]? = some x → ∀ k, cellR (.tup l) j k = cell1 x k := fun {l x} hx k => by
          cases hc : cell1 x k with
          | some y => exact cellR_tup' hx hc
          | none =>
            cases hc' : cellR (.tup l) j k with
            | none => rfl
            | some y =>
              obtain ⟨x', h5, h6⟩ := cellR_tup hc'
              rw [hx] at h5
              cases h5
              rw [hc] at h6
              cases h6
        exact key1 (hcr hcell) (hcr hd) (g2 j _ _ hcell hz) (g4 j _ _ hcell hd)
      | _ => exact hg.elim
    · have hnv : ∀ vs, v ≠ .tup vs := fun vs e => hr ⟨vs, e⟩
      have hg1 : Giv1 (look st.objs) v r := by cases v <;> first | exact hg | exact absurd rfl (hnv _)
      have hnr : ∀ vs, r ≠ .tup vs := fun vs e => by subst e; cases v <;> exact hg1
      have hc1 : C1 P w (look st.objs) pl (Free B W.o (look st.objs) F w) v u := by cases v <;> first | exact hv | exact absurd rfl (hnv _)
      have hcr : ∀ {x : V} (_ : ∀ vs, x ≠ .tup vs) (k : Nat), cellR x 0 k = cell1 x k := fun {x} hx k => by
        cases hc : cell1 x k with
        | some y => exact (cellR_1 hx).2 ⟨rfl, hc⟩
        | none =>
          cases hc' : cellR x 0 k with
          | none => rfl
          | some y =>
            have := ((cellR_1 hx).1 hc').2
            rw [hc] at this
            cases this
      have h3 := key1 (j := 0) (hcr hnv) (hcr hnr) hc1 hg1
      cases r <;> first | exact h3 | exact absurd rfl (hnr _)
  · obtain ⟨o, ep, fl, e, els, g1, g2, g3⟩ := hFF j k b hf
    obtain ⟨x, hx⟩ := hlive j k o ep g1
    exact h.range o x b hx g3
  · obtain ⟨o, ep, fl, e, els, g1, g2, g3⟩ := hFF j k b hf
    obtain ⟨o', ep', fl', e', els', g1', g2', g3'⟩ := hFF j' k' b hf'
    by_cases he : o = o'
    · subst he
      obtain ⟨rfl, rfl⟩ := cellR_uniq hn g1 g1'
      omega
    · obtain ⟨x, hx⟩ := hlive j k o ep g1
      obtain ⟨x', hx'⟩ := hlive j' k' o' ep' g1'
      exact h.apart o o' _ _ b he hx hx' g3 g3'
  · obtain ⟨o, ep, fl, e, els, g1, g2, g3⟩ := hFF j k b hf
    obtain ⟨x, hx⟩ := hlive j k o ep g1
    exact h.apart o o' _ _ b (fun e => hX o (hids j k o ep g1) (by rw [e]; exact hXo)) hx hl' g3 hf'
  · obtain ⟨o, ep, fl, e, els, g1, g2, g3⟩ := hFF j k b hf
    obtain ⟨x, hx⟩ := hlive j k o ep g1
    exact ⟨o, x, hx, g3⟩
end
/-- The value of a result variable. -/
def res1 (P : Program) (st : St) : ResultVar → Option V
  | .tmp t => some (st.ev (.tmp t))
  | .cell p ty => match st.ev (.tmp p), tinfo P ty with
    | .ptr i ep 0 off, some y => (match look st.objs i with | some (e, .box _ cs) => if e = ep then loadV y.k.agg y.size cs off else none | _ => none)
    | _, _ => none
def resL (P : Program) (st : St) : List ResultVar → Option (List V)
  | [] => some []
  | x :: r => match res1 P st x, resL P st r with | some v, some vs => some (v :: vs) | _, _ => none
def resV (P : Program) (st : St) (l : List ResultVar) : Option V :=
  match resL P st l with
  | some [v] => some v
  | some vs => some (.tup vs)
  | none => none
def asBox : V → Bool
  | .tup _ => false
  | _ => true
section
variable {P : Program} {B : Nat → Prop} {W : En} {st : St} {a : Act} {w : World} {pl : Nat → Value} {F : Nat → Nat → Prop}
def resM (tmps : Array Value) : ResultVar → Sem Value
  | .tmp t => pure (tmps.getD t undef)
  | .cell a t => do loadVar t (← asAddr (tmps.getD a undef))
theorem SimW.r1 (h : SimW P B W st a w pl F) {x : ResultVar} {v : V} (hx : res1 P st x = some v) : ∃ u, (resM a.tmps x).run P w = .ok u w ∧ C2 P w (look st.objs) pl (Free B W.o (look st.objs) F w) v u := by
  cases x with
  | tmp t =>
    cases hx
    exact ⟨_, rfl, h.ev (.tmp t)⟩
  | cell p ty =>
    simp only [res1] at hx
    split at hx
    · rename_i i ep off y hp hy
      split at hx
      · rename_i e bt cs hl
        split at hx
        · rename_i he
          subst he
          have h1 := h.ev (.tmp p)
          rw [hp] at h1
          obtain ⟨_, ep', ob, h2, h3, h4⟩ : C0 P w (look st.objs) pl (Free B W.o (look st.objs) F w) (.ptr i e 0 off) (a.eval (.tmp p)) := h1
          rw [hl] at h2
          cases h2
          obtain ⟨g, bb, hg, hu⟩ := h4 rfl
          obtain ⟨g', us, h5, h6, h7, h8⟩ := h.objs i _ _ hl
          rw [h5] at hg
          simp only [blk, Option.some.injEq, Prod.mk.injEq] at hg
          obtain ⟨rfl, rfl⟩ := hg
          obtain ⟨u, h9, h10⟩ := run_loadVar_t hy hx ⟨g', 0 + (0 * esz P (.box bt cs) + off), none⟩ (lk := look st.objs) (pl := pl) (Fr := Free B W.o (look st.objs) F w) (w := w) fun j z hz => by
            obtain ⟨u, hu1, hu2⟩ := Pw.at_ (R := C0 P w (look st.objs) pl (Free B W.o (look st.objs) F w)) ⟨h8.1, h8.2⟩ hz
            refine ⟨u, ?_, hu2⟩
            rw [add_lit0, cell_of_row w g' _ _ _ _ h7]
            simpa using hu1
          refine ⟨u, ?_, h10⟩
          have hu' : a.tmps.getD p undef = .pointer (some ⟨g', 0 + (0 * esz P (.box bt cs) + off), none⟩) := hu
          show (do loadVar ty (← asAddr (a.tmps.getD p undef)) : Sem Value).run P w = _
          rw [hu']
          simpa [asAddr] using h9
        · cases hx
      · cases hx
    · cases hx
theorem SimW.rL (h : SimW P B W st a w pl F) : ∀ {l : List ResultVar} {vs : List V}, resL P st l = some vs → ∃ us, (l.mapM (resM a.tmps)).run P w = .ok us w ∧ Pw (C2 P w (look st.objs) pl (Free B W.o (look st.objs) F w)) vs us
  | [], vs, hx => by cases hx; exact ⟨[], by simp, Pw.nil⟩
  | x :: r, vs, hx => by
    simp only [resL] at hx
    split at hx
    · rename_i v vs' h1 h2
      cases hx
      obtain ⟨u, h3, h4⟩ := h.r1 h1
      obtain ⟨us, h5, h6⟩ := h.rL h2
      exact ⟨u :: us, by simp [List.mapM_cons, h3, h5], Pw.cons h4 h6⟩
    · cases hx
theorem SimW.rV (h : SimW P B W st a w pl F) {fn : Func} {l : List ResultVar} {v : V} (hl : fn.results = l.toArray) (hx : resV P st l = some v) (ht : ∀ vs, resL P st l = some vs → vs.all asBox = true) : ∃ u, (results fn a.tmps).run P w = .ok u w ∧ C2 P w (look st.objs) pl (Free B W.o (look st.objs) F w) v u := by
  have hrun : (results fn a.tmps).run P w = ((l.mapM (resM a.tmps)).run P w).andThen fun us w' => .ok (if us.length = 1 then us.headD undef else .tuple us.toArray) w' := by
    unfold results
    rw [hl]
    have e : (fun x : ResultVar => (match x with | .tmp t => pure (a.tmps.getD t undef) | .cell a' t => do loadVar t (← asAddr (a.tmps.getD a' undef)) : Sem Value)) = resM a.tmps := by
      funext x; cases x <;> rfl
    rw [Sem.run_bind]
    show ((l.toArray.mapM (fun x : ResultVar => (match x with | .tmp t => pure (a.tmps.getD t undef) | .cell a' t => do loadVar t (← asAddr (a.tmps.getD a' undef)) : Sem Value))).run P w).andThen _ = _
    rw [e, List.mapM_toArray, Sem.run_map]
    cases (l.mapM (resM a.tmps)).run P w with
    | halt => rfl
    | ok us w' =>
      simp only [Result.andThen_ok]
      rw [Sem.run_pure]
      congr 1
      by_cases h1 : us.length = 1
      · obtain ⟨u, rfl⟩ := List.length_eq_one_iff.1 h1
        simp
      · simp [h1]
  unfold resV at hx
  split at hx
  · rename_i v' h1
    cases hx
    obtain ⟨us, h2, h3⟩ := h.rL h1
    obtain ⟨u, rfl⟩ := List.length_eq_one_iff.1 h3.1
    exact ⟨u, by rw [hrun, h2]; rfl, h3.2 0 _ _ rfl rfl⟩
  · rename_i vs hne h1
    cases hx
    obtain ⟨us, h2, h3⟩ := h.rL h1
    have hn1 : us.length ≠ 1 := fun e => by
      rw [h3.1] at e
      obtain ⟨x, rfl⟩ := List.length_eq_one_iff.1 e
      exact hne x rfl
    refine ⟨.tuple us.toArray, by rw [hrun, h2]; simp [hn1], us, rfl, h3.1, fun k x u hx hu => ?_⟩
    have hb : asBox x = true := List.all_eq_true.1 (ht _ h1) _ (List.mem_of_getElem? hx)
    have h4 := h3.2 k x u hx hu
    cases x <;> first | exact h4 | cases hb
  · cases hx
/-- The end of a function. -/
def Done (P : Program) (rl : List ResultVar) (r : V) (e : Exit) (st : St) : Prop := (e = .normal ∨ e = .ret) ∧ ∃ v, resV P st rl = some v ∧ Giv2 (look st.objs) v r ∧ ((ids2 v).Nodup ∧ ∀ vs, resL P st rl = some vs → vs.all asBox = true)
def argT : Nat → List V → List (Nat × V)
  | _, [] => []
  | k, v :: r => (k, v) :: argT (k + 1) r
theorem lookT_arg : ∀ {as : List V} {k : Nat} {i : Nat}, lookT (argT k as) i = if k ≤ i then (match as[i - k]? with | some v => v | none => .junk) else .junk
  | [], k, i => by simp [argT, lookT]
  | v :: r, k, i => by
    rw [argT, lookT_cons]
    by_cases h : k = i
    · subst h; simp
    · rw [if_neg h, lookT_arg]
      by_cases h2 : k ≤ i
      · rw [if_pos h2, if_pos (by omega), show i - k = (i - (k + 1)) + 1 by omega, List.getElem?_cons_succ]
      · rw [if_neg h2, if_neg (by omega)]
def vOf : List V → V
  | [v] => v
  | vs => .tup vs
theorem Done.intro {P : Program} {rl : List ResultVar} {r v : V} {e : Exit} {st : St} {vs : List V} (he : e = .normal ∨ e = .ret) (hL : resL P st rl = some vs) (hb : vs.all asBox = true) (hv : vOf vs = v) (hg : Giv2 (look st.objs) v r) (hn : (ids2 v).Nodup) : Done P rl r e st := by
  refine ⟨he, v, ?_, hg, hn, fun vs' h => by rw [hL] at h; cases h; exact hb⟩
  unfold resV
  rw [hL]
  subst hv
  match vs with
  | [] => rfl
  | [v] => rfl
  | _ :: _ :: _ => rfl
theorem AC.body {f : FuncId} {fn : Func} {c : Code} {as : List V} {r : V} (hf : P.funcs[f]? = some fn) (hb : fn.body = some c) (hn : (fn.name == "runtime.NumGoroutine") = false) {rl : List ResultVar} (hrl : fn.results = rl.toArray) {n : Nat} (hnt : fn.ntmps = n) (hnn : as.length ≤ n)
    (h : ∀ B (W : En), (∃ us, Pw (C1 P W.toWorld noLk noPl B) as us) → aW P B W c (Done P rl r) ⟨n, argT 0 as, []⟩) : AC P f as r := by
  refine ⟨⟨fn, hf, by rw [hb]; rfl, hn⟩, fun w B args hB hargs => ?_⟩
  refine calls_of_wp hf hb ?_
  have hs : Sim P B (En.bare w) ⟨n, argT 0 as, []⟩ { tmps := args.toArray ++ Array.replicate (fn.ntmps - args.toArray.size) undef, defers := [] } w := by
    refine ⟨noPl, fun _ _ => False, hB, ?_, rfl, Kp.refl _ _, fun i hv => ?_, fun o ep ob ho => (by cases ho), fun o x b ho => (by cases ho), fun o o' x x' b _ ho => (by cases ho), fun o ob0 h0 => (by cases h0)⟩
    · simp [hargs.1, hnt]; omega
    · show C2 _ _ _ _ _ (lookT (argT 0 as) i) ((args.toArray ++ Array.replicate (fn.ntmps - args.toArray.size) undef).getD i undef)
      rw [lookT_arg]
      by_cases hi : i < as.length
      · obtain ⟨u, hu, hc⟩ := hargs.at_ (List.getElem?_eq_getElem hi)
        have e : (args.toArray ++ Array.replicate (fn.ntmps - args.toArray.size) undef).getD i undef = u := by
          rw [Array.getD_eq_getD_getElem?, Array.getElem?_append_left (by simp [hargs.1, hi])]
          simp [hu]
        rw [e, Nat.sub_zero, List.getElem?_eq_getElem hi]
        have hfree : ∀ b, B b → Free B (En.bare w).o (look ([] : List (Nat × Nat × Ob))) (fun _ _ => False) w b := fun b hb => ⟨.inl hb, hB b hb, fun o x ho => (by cases ho)⟩
        exact (hc.weak (lk' := look []) hfree fun o _ => rfl).c2
      · rw [List.getElem?_eq_none (by omega)]
        split <;> trivial
  refine wp_mono (h B (En.bare w) ⟨args, hargs⟩ _ _ hs) ?_
  rintro e a' w' ⟨st', ⟨pl, F, hs'⟩, he, v, h1, h2, h3, h4⟩
  obtain ⟨u, h5, h6⟩ := hs'.rV hrl h1 h4
  obtain ⟨FF, g1, g2, g3, _⟩ := hs'.giv_x h6 h2 h3 (X := fun _ => False) fun _ _ h => h
  have e0 : ∀ b, (En.bare w).o b ↔ w.heap.size ≤ b := fun b => ⟨fun h => h.elim id False.elim, .inl⟩
  have h7 : ResR P w w' B r u := by
    refine ⟨FF, ?_, fun j k b hb => ⟨(e0 b).1 (g2 j k b hb).1, (g2 j k b hb).2⟩, g3⟩
    have e1 : (fun b => (B b ∨ (En.bare w).o b) ∧ b < w'.heap.size ∧ (∀ o x, False → look st'.objs o = some x → ¬ F o b) ∧ ∀ j k, ¬ FF j k b) = fun b => (B b ∨ w.heap.size ≤ b) ∧ b < w'.heap.size ∧ ∀ j k, ¬ FF j k b := by
      funext b
      rw [e0]
      simp
    rw [← e1]
    exact g1
  rcases he with rfl | rfl
  · exact ⟨hs'.defers, u, h5, u, rfl, hs'.below.below fun _ h => h, h7⟩
  · exact ⟨hs'.defers, u, h5, u, rfl, hs'.below.below fun _ h => h, h7⟩
end
end Go.Proofs.Ytmkpgcahmbancaa.Ab
