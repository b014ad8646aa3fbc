/- What is proved: the calculus of abstract states: contracts of functions that change what is handed over to them.
   Conditions: none beyond those that each lemma names. -/
import Derived.Test.YtmkpgcahmbancaaAbsD
namespace Go.Proofs.Ytmkpgcahmbancaa.Ab
set_option linter.unusedSimpArgs false
set_option linter.unusedVariables false
open Go.RowKit

/-! ### The contract -/
def MSet (objs : List (Nat × Nat × Ob)) (F : Nat → Nat → Prop) (b : Nat) : Prop := ∃ o x, look objs o = some x ∧ F o b
/-- Objects as they lie in a world, with blocks B to read. -/
structure Env0 (P : Program) (w : World) (B : Nat → Prop) (objs : List (Nat × Nat × Ob)) (pl : Nat → Value) (F : Nat → Nat → Prop) : Prop where
  obs : ∀ o ep ob, look objs o = some (ep, ob) → ObR P w (C0 P w (look objs) pl (Free B (fun _ => False) (look objs) F w)) (Rd P w (Free B (fun _ => False) (look objs) F w)) (pl o) (F o) ob
  range : ∀ o x b, look objs o = some x → F o b → b < w.heap.size
  apart : ∀ o o' x x' b, o ≠ o' → look objs o = some x → look objs o' = some x' → F o b → ¬ F o' b
/-- The blocks to read when such a function has ended. -/
def FrM (B O : Nat → Prop) (w' : World) (lk : Nat → Option (Nat × Ob)) (F' : Nat → Nat → Prop) (FF : Nat → Nat → Nat → Prop) (b : Nat) : Prop :=
  (B b ∨ O b) ∧ b < w'.heap.size ∧ (∀ o x, lk o = some x → ¬ F' o b) ∧ ∀ j k, ¬ FF j k b
/-- A result: an object that goes back, or as ever. -/
def isOwnV : V → Bool
  | .hnd .. | .ptr .. | .view .. => true
  | _ => false
def R2m (P : Program) (w : World) (lk : Nat → Option (Nat × Ob)) (pl : Nat → Value) (Fr : Nat → Prop) (FF : Nat → Nat → Nat → Prop) (r : V) (u : Value) : Prop := if isOwnV r = true then C0 P w lk pl Fr r u else R2 P w Fr FF r u
structure MEnd (P : Program) (B O : Nat → Prop) (w' : World) (objs objs' : List (Nat × Nat × Ob)) (pl pl' : Nat → Value) (F' : Nat → Nat → Prop) (FF : Nat → Nat → Nat → Prop) (r : V) (u : Value) : Prop where
  lks : ∀ o ob, look objs o = some (0, ob) → ∃ ep' ob', look objs' o = some (ep', ob') ∧ (0 < ep' ∨ (0 = ep' ∧ pl' o = pl o ∧ ob'.isRow = ob.isRow ∧ esz P ob' = esz P ob))
  obs : ∀ o ep ob, look objs' o = some (ep, ob) → ObR P w' (C0 P w' (look objs') pl' (FrM B O w' (look objs') F' FF)) (Rd P w' (FrM B O w' (look objs') F' FF)) (pl' o) (F' o) ob
  res : R2m P w' (look objs') pl' (FrM B O w' (look objs') F' FF) FF r u
  range : ∀ o x b, look objs' o = some x → F' o b → O b ∧ b < w'.heap.size
  rangeF : ∀ j k b, FF j k b → O b ∧ b < w'.heap.size
  apart : ∀ o o' x x' b, o ≠ o' → look objs' o = some x → look objs' o' = some x' → F' o b → ¬ F' o' b
  apartF : ∀ j k j' k' b, (j ≠ j' ∨ k ≠ k') → FF j k b → ¬ FF j' k' b
  apartM : ∀ o x j k b, look objs' o = some x → FF j k b → ¬ F' o b
/-- Called on as with the objects objs, f gives some R x and leaves the objects as O x, with Post x. -/
def AMP (P : Program) (f : FuncId) (objs : List (Nat × Nat × Ob)) (as : List V) {α : Type} (O : α → List (Nat × Nat × Ob)) (R : α → V) (Post : α → Prop) : Prop := Enters P f ∧ (objs.all fun x => Nat.beq x.2.1 0) = true ∧
  ∀ (w : World) (B : Nat → Prop) (args : List Value) (pl : Nat → Value) (F : Nat → Nat → Prop), (∀ b, B b → b < w.heap.size) → Env0 P w B objs pl F → Pw (C1 P w (look objs) pl (Free B (fun _ => False) (look objs) F w)) as args →
    Calls P f args.toArray w fun e w' => ∃ x u pl' F' FF, Post x ∧ e = .returned u ∧ Kp ⟨w, MSet objs F, objs, pl⟩ w w' ∧ MEnd P B (En.o ⟨w, MSet objs F, objs, pl⟩) w' objs (O x) pl pl' F' FF (R x) u
/-- Called on as with the objects objs, f gives r and leaves the objects as objs'. -/
def AM (P : Program) (f : FuncId) (objs : List (Nat × Nat × Ob)) (as : List V) (objs' : List (Nat × Nat × Ob)) (r : V) : Prop := AMP P f objs as (α := Unit) (fun _ => objs') (fun _ => r) fun _ => True
def idsL (objs : List (Nat × Nat × Ob)) : List Nat := objs.map (·.1)
/-- The end of such a function. -/
def DoneM (P : Program) (rl : List ResultVar) (objs objs' : List (Nat × Nat × Ob)) (r : V) (e : Exit) (st : St) : Prop := (e = .normal ∨ e = .ret) ∧ ∃ v, resV P st rl = some v ∧ (∀ vs, resL P st rl = some vs → vs.all asBox = true) ∧
  ((isOwnV r = true ∧ v = r ∧ ((ids0 r).all fun o => (idsL objs').contains o) = true) ∨ (isOwnV r = false ∧ Giv2 (look st.objs) v r ∧ (ids2 v).Nodup ∧ ((ids2 v).all fun o => !(idsL objs').contains o) = true)) ∧
  leO st.objs objs' ∧ ((objs'.flatMap fun p => idsOb p.2.2).all fun o => (idsL objs').contains o) = true ∧ ((idsL objs).all fun o => (idsL objs').contains o) = true
def DoneP (P : Program) (rl : List ResultVar) (objs : List (Nat × Nat × Ob)) {α : Type} (O : α → List (Nat × Nat × Ob)) (R : α → V) (Post : α → Prop) (e : Exit) (st : St) : Prop := ∃ x, Post x ∧ DoneM P rl objs (O x) (R x) e st
theorem look_ids : ∀ {l : List (Nat × Nat × Ob)} {o : Nat} {x : Nat × Ob}, look l o = some x → o ∈ idsL l := fun h => List.mem_map.2 ⟨_, look_mem h, rfl⟩
section
variable {P : Program}
theorem DoneM.intro {rl : List ResultVar} {objs objs' : List (Nat × Nat × Ob)} {r v : V} {e : Exit} {st : St} {vs : List V} (he : e = .normal ∨ e = .ret) (hL : resL P st rl = some vs) (hb : vs.all asBox = true) (hv : vOf vs = v)
    (ho : leO st.objs objs') (h2 : ((objs'.flatMap fun p => idsOb p.2.2).all fun o => (idsL objs').contains o) = true) (h3 : ((idsL objs).all fun o => (idsL objs').contains o) = true)
    (hg : (isOwnV r = true ∧ v = r ∧ ((ids0 r).all fun o => (idsL objs').contains o) = true) ∨ (isOwnV r = false ∧ Giv2 (look st.objs) v r ∧ (ids2 v).Nodup ∧ ((ids2 v).all fun o => !(idsL objs').contains o) = true)) : DoneM P rl objs objs' r e st := by
  refine ⟨he, v, ?_, fun vs' h => (by rw [hL] at h; cases h; exact hb), hg, ho, h2, h3⟩
  unfold resV
  rw [hL]
  subst hv
  match vs with
  | [] => rfl
  | [v] => rfl
  | _ :: _ :: _ => rfl
theorem AMP.body {f : FuncId} {fn : Func} {c : Code} {as : List V} {objs : List (Nat × Nat × Ob)} {α : Type} {O : α → List (Nat × Nat × Ob)} {R : α → V} {Post : α → Prop} (hf : P.funcs[f]? = some fn) (hb : fn.body = some c) (hn : (fn.name == "runtime.NumGoroutine") = false) {rl : List ResultVar} (hrl : fn.results = rl.toArray) {n : Nat} (hnt : fn.ntmps = n) (hnn : as.length ≤ n) (h0 : (objs.all fun x => Nat.beq x.2.1 0) = true)
    (h : ∀ B (W : En), (∃ pl Fr us, Pw (C1 P W.toWorld (look objs) pl Fr) as us) → aW P B W c (DoneP P rl objs O R Post) ⟨n, argT 0 as, objs⟩) : AMP P f objs as O R Post := by
  refine ⟨⟨fn, hf, by rw [hb]; rfl, hn⟩, h0, fun w B args pl F hB hE hargs => ?_⟩
  refine calls_of_wp hf hb ?_
  have hfree : ∀ b, Free B (fun _ => False) (look objs) F w b → Free B (En.o ⟨w, MSet objs F, objs, pl⟩) (look objs) F w b := fun b hb => ⟨hb.1.imp id False.elim, hb.2⟩
  have hs : Sim P B ⟨w, MSet objs F, objs, pl⟩ ⟨n, argT 0 as, objs⟩ { tmps := args.toArray ++ Array.replicate (fn.ntmps - args.toArray.size) undef, defers := [] } w := by
    refine ⟨pl, F, hB, ?_, rfl, Kp.refl _ _, fun i hv => ?_, fun o ep ob ho => ?_, fun o x b ho hb => ⟨.inr ⟨o, x, ho, hb⟩, hE.range o x b ho hb⟩, hE.apart, fun o ob0 h0 ep ob ho => ?_⟩
    · simp [hargs.1, hnt]; omega
    · show C2 _ _ _ _ _ (lookT (argT 0 as) i) ((args.toArray ++ Array.replicate (fn.ntmps - args.toArray.size) undef).getD i undef)
      rw [lookT_arg]
      by_cases hi : i < as.length
      · obtain ⟨u, hu, hc⟩ := hargs.at_ (List.getElem?_eq_getElem hi)
        have e : (args.toArray ++ Array.replicate (fn.ntmps - args.toArray.size) undef).getD i undef = u := by
          rw [Array.getD_eq_getD_getElem?, Array.getElem?_append_left (by simp [hargs.1, hi])]
          simp [hu]
        rw [e, Nat.sub_zero, List.getElem?_eq_getElem hi]
        exact (hc.weak hfree fun o _ => rfl).c2
      · rw [List.getElem?_eq_none (by omega)]
        split <;> trivial
    · exact (hE.obs o ep ob ho).goes (fun _ _ => rfl) (fun x u hc => hc.weak hfree fun o _ => rfl) (fun x u hr => hr.mono hfree fun _ _ => rfl)
    · have h1 : look objs o = some (0, ob0) := h0
      have h2 : look objs o = some (ep, ob) := ho
      rw [h1] at h2
      cases h2
      exact .inr ⟨rfl, rfl, rfl⟩
  refine wp_mono (h B ⟨w, MSet objs F, objs, pl⟩ ⟨pl, _, args, hargs⟩ _ _ hs) ?_
  rintro e a' w' ⟨st', ⟨pl', F', hs'⟩, x, hx, he, v, h1, h4, h2, h5, h7, h8⟩
  obtain ⟨u, g1, g2⟩ := hs'.rV hrl h1 h4
  have hsub : ∀ o y, look (O x) o = some y → look st'.objs o = some y := leO_at h5
  have hE' : Kp ⟨w, MSet objs F, objs, pl⟩ w w' ∧ ∃ FF, MEnd P B (En.o ⟨w, MSet objs F, objs, pl⟩) w' objs (O x) pl pl' F' FF (R x) u := by
    have key : ∀ FF : Nat → Nat → Nat → Prop, (∀ j k b, FF j k b → ∃ o x, look st'.objs o = some x ∧ F' o b) → (∀ j k b, FF j k b → En.o ⟨w, MSet objs F, objs, pl⟩ b ∧ b < w'.heap.size) → (∀ j k j' k' b, (j ≠ j' ∨ k ≠ k') → FF j k b → ¬ FF j' k' b) →
        (∀ o y j k b, look (O x) o = some y → FF j k b → ¬ F' o b) → R2m P w' (look (O x)) pl' (FrM B (En.o ⟨w, MSet objs F, objs, pl⟩) w' (look (O x)) F' FF) FF (R x) u → MEnd P B (En.o ⟨w, MSet objs F, objs, pl⟩) w' objs (O x) pl pl' F' FF (R x) u := fun FF k5 k2 k3 k4 hres => by
      have hFr : ∀ b, Free B (En.o ⟨w, MSet objs F, objs, pl⟩) (look st'.objs) F' w' b → FrM B (En.o ⟨w, MSet objs F, objs, pl⟩) w' (look (O x)) F' FF b := fun b hb => by
        refine ⟨hb.1, hb.2.1, fun o y ho => hb.2.2 o y (hsub o y ho), fun j k hf => ?_⟩
        obtain ⟨o, y, hx, hF⟩ := k5 j k b hf
        exact hb.2.2 o y hx hF
      refine ⟨fun o ob ho => ?_, fun o ep ob ho => ?_, hres, fun o y b ho hb => hs'.range o y b (hsub o y ho) hb, k2, fun o o' y y' b hne ho ho' => hs'.apart o o' y y' b hne (hsub o y ho) (hsub o' y' ho'), k3, k4⟩
      · have hm := List.contains_iff_mem.1 (List.all_eq_true.1 h8 o (look_ids ho))
        obtain ⟨⟨ep', ob'⟩, hx⟩ := look_has (List.contains_iff_mem.2 hm)
        refine ⟨ep', ob', hx, ?_⟩
        rcases hs'.hist o ob ho ep' ob' (hsub o _ hx) with h9 | h9
        · exact .inl h9
        · exact (Nat.eq_zero_or_pos ep').elim (fun h => .inr ⟨h.symm, h9⟩) .inl
      · refine (hs'.objs o ep ob (hsub o _ ho)).goes_weak (fun y u hx hc => hc.weak hFr fun i hi => ?_) (fun y u hr => hr.mono hFr fun _ _ => rfl)
        have hm : i ∈ (O x).flatMap fun p => idsOb p.2.2 := List.mem_flatMap.2 ⟨_, look_mem ho, hx i hi⟩
        obtain ⟨y, hy⟩ := look_has (List.all_eq_true.1 h7 i hm)
        rw [hy, hsub i y hy]
    refine ⟨hs'.below, ?_⟩
    rcases h2 with ⟨q1, q2, q3⟩ | ⟨q1, q2, q3, q4⟩
    · subst q2
      have hfr : ∀ b, Free B (En.o ⟨w, MSet objs F, objs, pl⟩) (look st'.objs) F' w' b → FrM B (En.o ⟨w, MSet objs F, objs, pl⟩) w' (look (O x)) F' (fun _ _ _ => False) b := fun b hb => ⟨hb.1, hb.2.1, fun o y ho => hb.2.2 o y (hsub o y ho), fun _ _ h => h⟩
      refine ⟨fun _ _ _ => False, key _ (fun _ _ _ h => h.elim) (fun _ _ _ h => h.elim) (fun _ _ _ _ _ _ h => h.elim) (fun _ _ _ _ _ _ h => h.elim) ?_⟩
      unfold R2m
      rw [if_pos q1]
      have g3 : C0 P w' (look st'.objs) pl' (Free B (En.o ⟨w, MSet objs F, objs, pl⟩) (look st'.objs) F' w') (R x) u := by
        revert q1 g2
        cases R x <;> first | (intro _ h; exact h) | (intro h; cases h)
      refine g3.weak hfr fun o ho => ?_
      obtain ⟨y, hy⟩ := look_has (List.all_eq_true.1 q3 o ho)
      rw [hy, hsub o y hy]
    · have hnot : ∀ o, o ∈ ids2 v → ¬ ∃ y, look (O x) o = some y := fun o ho ⟨y, hy⟩ => by
        have := List.all_eq_true.1 q4 o ho
        have h9 : (idsL (O x)).contains o = true := List.contains_iff_mem.2 (look_ids hy)
        rw [h9] at this
        cases this
      obtain ⟨FF, k1, k2, k3, k4, k5⟩ := hs'.giv_x g2 q2 q3 (X := fun o => ∃ y, look (O x) o = some y) hnot
      have e1 : (fun b => (B b ∨ En.o ⟨w, MSet objs F, objs, pl⟩ b) ∧ b < w'.heap.size ∧ (∀ o y, (∃ y, look (O x) o = some y) → look st'.objs o = some y → ¬ F' o b) ∧ ∀ j k, ¬ FF j k b) = FrM B (En.o ⟨w, MSet objs F, objs, pl⟩) w' (look (O x)) F' FF := by
        funext b
        refine propext ⟨fun h => ⟨h.1, h.2.1, fun o y ho => h.2.2.1 o y ⟨y, ho⟩ (hsub o y ho), h.2.2.2⟩, fun h => ⟨h.1, h.2.1, fun o z ⟨y, hy⟩ _ => h.2.2.1 o y hy, h.2.2.2⟩⟩
      refine ⟨FF, key FF k5 k2 k3 (fun o y j k b ho hb => k4 o y j k b ⟨y, ho⟩ (hsub o y ho) hb) ?_⟩
      unfold R2m
      rw [if_neg (by rw [q1]; decide), ← e1]
      exact k1
  obtain ⟨hK', FF, hM⟩ := hE'
  rcases he with rfl | rfl
  · exact ⟨hs'.defers, u, g1, x, u, pl', F', FF, hx, rfl, hK', hM⟩
  · exact ⟨hs'.defers, u, g1, x, u, pl', F', FF, hx, rfl, hK', hM⟩
theorem AM.body {f : FuncId} {fn : Func} {c : Code} {as : List V} {objs objs' : List (Nat × Nat × Ob)} {r : V} (hf : P.funcs[f]? = some fn) (hb : fn.body = some c) (hn : (fn.name == "runtime.NumGoroutine") = false) {rl : List ResultVar} (hrl : fn.results = rl.toArray) {n : Nat} (hnt : fn.ntmps = n) (hnn : as.length ≤ n) (h0 : (objs.all fun x => Nat.beq x.2.1 0) = true)
    (h : ∀ B (W : En), (∃ pl Fr us, Pw (C1 P W.toWorld (look objs) pl Fr) as us) → aW P B W c (DoneM P rl objs objs' r) ⟨n, argT 0 as, objs⟩) : AM P f objs as objs' r :=
  AMP.body hf hb hn hrl hnt hnn h0 fun B W hr => (h B W hr).mono fun e st hd => ⟨(), trivial, hd⟩
/-! ### Renaming -/
/-- How a caller names the objects: of each of the callee's, the caller's number and by what its epoch is ahead. -/
def ren (m : List (Nat × Nat × Nat)) (o : Nat) : Nat × Nat := match m with | [] => (o, 0) | (i, j, d) :: r => match Nat.beq i o with | true => (j, d) | false => ren r o
def renV0 (m : List (Nat × Nat × Nat)) : V → V
  | .hnd o ep => .hnd (ren m o).1 ((ren m o).2 + ep)
  | .ptr o ep i off => .ptr (ren m o).1 ((ren m o).2 + ep) i off
  | .view o ep i n => .view (ren m o).1 ((ren m o).2 + ep) i n
  | v => v
def renVL (m : List (Nat × Nat × Nat)) : List V → List V
  | [] => []
  | v :: r => renV0 m v :: renVL m r
def renOb (m : List (Nat × Nat × Nat)) : Ob → Ob
  | .box ty cs => .box ty (renVL m cs)
  | .hole e els q x => .hole e els q (renV0 m x)
  | .row fl d e els => .row fl d e els
  | .gone => .gone
def renO (m : List (Nat × Nat × Nat)) : List (Nat × Nat × Ob) → List (Nat × Nat × Ob)
  | [] => []
  | (o, e, b) :: r => ((ren m o).1, (ren m o).2 + e, renOb m b) :: renO m r
section
variable {w w' : World} {m : List (Nat × Nat × Nat)} {lk lk' lkc : Nat → Option (Nat × Ob)} {pl pl' plc : Nat → Value} {Fr Fr' : Nat → Prop}
end
end
end Go.Proofs.Ytmkpgcahmbancaa.Ab
