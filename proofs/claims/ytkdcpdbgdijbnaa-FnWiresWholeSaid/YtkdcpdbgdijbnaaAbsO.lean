/- What is proved: the calculus of abstract states: calls of functions that change what is handed over to them, the rule.
   Conditions: none beyond those that each lemma names. -/
import Derived.Test.YtkdcpdbgdijbnaaAbsN
namespace Go.Proofs.Ytkdcpdbgdijbnaa.Ab
open Go.RowKit

theorem nodup_map_inj {α β : Type} {f : α → β} : ∀ {l : List α} (_ : (l.map f).Nodup) {a b : α}, a ∈ l → b ∈ l → f a = f b → a = b
  | [], _, _, _, h, _, _ => by cases h
  | c :: r, hn, a, b, ha, hb, he => by
    rw [List.map_cons, List.nodup_cons] at hn
    rcases List.mem_cons.1 ha with e1 | h1
    · rcases List.mem_cons.1 hb with e2 | h2
      · rw [e1, e2]
      · exact (hn.1 (List.mem_map.2 ⟨b, h2, by rw [← he, e1]⟩)).elim
    · rcases List.mem_cons.1 hb with e2 | h2
      · exact (hn.1 (List.mem_map.2 ⟨a, h1, by rw [he, e2]⟩)).elim
      · exact nodup_map_inj hn.2 h1 h2 he
theorem leO_mem {objs : List (Nat × Nat × Ob)} : ∀ {l : List (Nat × Nat × Ob)}, leO objs l → ∀ {i e : Nat} {b : Ob}, (i, e, b) ∈ l → look objs i = some (e, b)
  | [], _, _, _, _, h => by cases h
  | (o, e0, b0) :: r, hl, i, e, b, h => by
    rcases List.mem_cons.1 h with h | h
    · cases h; exact hl.1
    · exact leO_mem hl.2 h
/-- What comes back: one of the objects that were handed over, or as ever. -/
def isTup : V → Bool
  | .tup _ => true
  | _ => false
/-- What comes back, with what is fresh in it as objects. -/
inductive Imp2 (lk : Nat → Option (Nat × Ob)) : Nat → V → V → List (Nat × Nat × Ob) → Prop
  | tup {id vs vs' us} : ImpT lk id vs vs' us → Imp2 lk id (.tup vs) (.tup vs') us
  | agg {id cs cs' us} : ImpL lk id cs cs' us → Imp2 lk id (.agg cs) (.agg cs') us
  | fr {id fl e els ep} : nep (lk id) = ep → Imp2 lk id (.fr fl e els) (.hnd id ep) [(id, ep, .row fl true e els)]
  | other {id v} : isFr v = false → isAgg v = false → isTup v = false → Imp2 lk id v v []
theorem Imp2.eq {lk : Nat → Option (Nat × Ob)} {id : Nat} {r v : V} {us : List (Nat × Nat × Ob)} (h : Imp2 lk id r v us) : imp2 false lk id r = v ∧ upd2 false lk id r = us := by
  cases h with
  | tup h => exact ⟨congrArg V.tup h.eq.1, h.eq.2⟩
  | agg h => exact ⟨congrArg V.agg h.eq.1, h.eq.2⟩
  | fr h => subst h; exact ⟨rfl, rfl⟩
  | other h1 h2 h3 =>
    cases r <;> first | exact ⟨rfl, rfl⟩ | exact Bool.noConfusion (show true = false from h1) | exact Bool.noConfusion (show true = false from h2) | exact Bool.noConfusion (show true = false from h3)
inductive Imp3 (m : List (Nat × Nat × Nat)) (lk : Nat → Option (Nat × Ob)) (id : Nat) : V → V → List (Nat × Nat × Ob) → Prop
  | ptr {o ep k off i d e'} : ren m o = (i, d) → d + ep = e' → Imp3 m lk id (.ptr o ep k off) (.ptr i e' k off) []
  | hnd {o ep i d e'} : ren m o = (i, d) → d + ep = e' → Imp3 m lk id (.hnd o ep) (.hnd i e') []
  | imp {r v us} : isOwnV r = false → Imp2 lk id r v us → Imp3 m lk id r v us
/-- The objects in the caller's names, cell by cell. -/
inductive RenL (m : List (Nat × Nat × Nat)) : List V → List V → Prop
  | nil : RenL m [] []
  | hnd {o ep i d e' r r'} : ren m o = (i, d) → d + ep = e' → RenL m r r' → RenL m (.hnd o ep :: r) (.hnd i e' :: r')
  | ptr {o ep k off i d e' r r'} : ren m o = (i, d) → d + ep = e' → RenL m r r' → RenL m (.ptr o ep k off :: r) (.ptr i e' k off :: r')
  | view {o ep j n i d e' r r'} : ren m o = (i, d) → d + ep = e' → RenL m r r' → RenL m (.view o ep j n :: r) (.view i e' j n :: r')
  | other {v r r'} : isOwnV v = false → RenL m r r' → RenL m (v :: r) (v :: r')
inductive RenR (m : List (Nat × Nat × Nat)) : List (Nat × Nat × Ob) → List (Nat × Nat × Ob) → Prop
  | nil : RenR m [] []
  | row {o ep i d e' fl dd e els r r'} : ren m o = (i, d) → d + ep = e' → RenR m r r' → RenR m ((o, ep, .row fl dd e els) :: r) ((i, e', .row fl dd e els) :: r')
  | box {o ep i d e' ty cs cs' r r'} : ren m o = (i, d) → d + ep = e' → RenL m cs cs' → RenR m r r' → RenR m ((o, ep, .box ty cs) :: r) ((i, e', .box ty cs') :: r')
  | gone {o ep i d e' r r'} : ren m o = (i, d) → d + ep = e' → RenR m r r' → RenR m ((o, ep, .gone) :: r) ((i, e', .gone) :: r')
theorem RenL.eq {m : List (Nat × Nat × Nat)} {cs cs' : List V} (h : RenL m cs cs') : renVL m cs = cs' := by
  induction h with
  | nil => rfl
  | hnd h1 h2 _ ih => subst h2; simp [renVL, renV0, h1, ih]
  | ptr h1 h2 _ ih => subst h2; simp [renVL, renV0, h1, ih]
  | view h1 h2 _ ih => subst h2; simp [renVL, renV0, h1, ih]
  | @other v r r' h1 _ ih =>
    have : renV0 m v = v := by cases v <;> first | rfl | exact Bool.noConfusion (show true = false from h1)
    simp [renVL, this, ih]
theorem RenR.eq {m : List (Nat × Nat × Nat)} {l l' : List (Nat × Nat × Ob)} (h : RenR m l l') : renO m l = l' := by
  induction h with
  | nil => rfl
  | row h1 h2 _ ih => subst h2; simp [renO, renOb, h1, ih]
  | box h1 h2 h3 _ ih => subst h2; simp [renO, renOb, h1, h3.eq, ih]
  | gone h1 h2 _ ih => subst h2; simp [renO, renOb, h1, ih]
def nodupB : List Nat → Bool
  | [] => true
  | x :: r => !r.contains x && nodupB r
theorem nodupB_ok : ∀ {l : List Nat}, nodupB l = true → l.Nodup
  | [], _ => List.nodup_nil
  | x :: r, h => by
    unfold nodupB at h
    rw [Bool.and_eq_true, Bool.not_eq_true'] at h
    exact List.nodup_cons.2 ⟨fun hm => (by rw [List.contains_iff_mem.2 hm] at h; cases h.1), nodupB_ok h.2⟩
def newOk (st : St) (m : List (Nat × Nat × Nat)) (objs objs' : List (Nat × Nat × Ob)) : Bool :=
  objs'.all fun x => (idsL objs).contains x.1 || (match look st.objs (ren m x.1).1 with | some (e, _) => Nat.blt e ((ren m x.1).2 + x.2.1) | none => Nat.blt 0 ((ren m x.1).2 + x.2.1))
def pureM (r : V) (objs' : List (Nat × Nat × Ob)) : Bool := pureR r && objs'.all fun p => pureOb p.2.2
/-- How the caller goes on behind such a call. -/
structure MutK (st : St) (m : List (Nat × Nat × Nat)) (objs : List (Nat × Nat × Ob)) (args as : List V) (d : Nat) (KE : V → List (Nat × Nat × Ob) → Prop) (objs' : List (Nat × Nat × Ob)) (r v : V) (us us' : List (Nat × Nat × Ob)) : Prop where
  imp : Imp3 m (look st.objs) (1000 * d) r v us
  nd : nodupB (idsL (renO m objs' ++ us)) = true
  new : newOk st m objs objs' = true
  pur : (pureM r objs' = true ∧ ((outsA args as).all fun o => !(idsL (renO m objs)).contains o) = true) ∨ outsA args as = []
  sm : small2 r = true
  hin : ((idsL objs).all fun o => (idsL objs').contains o) = true
  re : RenR m objs' us'
  go : KE v (us' ++ us)
section
variable {P : Program} {B : Nat → Prop} {W : En} {o : Oper} {st : St} {KE : V → List (Nat × Nat × Ob) → Prop}
set_option maxHeartbeats 1000000 in
/-- A call that changes objects of the caller's: m tells which. -/
theorem OpS.call_mutP {c : Call} {g : FuncId} {objs : List (Nat × Nat × Ob)} {as : List V} {α : Type} {O : α → List (Nat × Nat × Ob)} {R : α → V} {Post : α → Prop} {d : Nat} {m : List (Nat × Nat × Nat)} (ho : o.op = .call c) (hd : o.dst = some d) (hc : c.callee = .value (.func g)) (hA : AMP P g objs as O R Post)
    (hs : SeeMA m (look st.objs) (c.args.toList.map st.ev) as) (hob : leO st.objs (renO m objs)) (hid : ((as.flatMap ids1).all fun o => (idsL objs).contains o) = true) (hcl : ((objs.flatMap fun p => idsOb p.2.2).all fun o => (idsL objs).contains o) = true)
    (hout : outsA (c.args.toList.map st.ev) as = [] ∨ ((∀ x, Post x → pureM (R x) (O x) = true) ∧ ((outsA (c.args.toList.map st.ev) as).all fun o => !(idsL (renO m objs)).contains o) = true)) (hinj : nodupB (idsL (renO m objs)) = true)
    (hK : ∀ x, Post x → ∃ v us us', MutK st m objs (c.args.toList.map st.ev) as d KE (O x) (R x) v us us') : OpS P B W o st KE := by
  intro a w pl F hS next Q hn
  obtain ⟨⟨fn, h1, h2, h3⟩, hz, hcall⟩ := hA
  have hrun : (execOp a.eval o).run P w = .ok (.enter g (c.args.toList.map a.eval).toArray) w := by
    unfold execOp
    rw [ho]
    have he : a.eval (.func g) = .func (.func g) #[] #[] := rfl
    have hb : fn.body ≠ none := fun e => by rw [e] at h2; cases h2
    have hnm : fn.name ≠ "runtime.NumGoroutine" := by simpa using h3
    have hm : Array.map a.eval c.args = (List.map a.eval c.args.toList).toArray := by rw [← Array.toList_map, Array.toArray_toList]
    simp [resolve, hc, he, Deferred.ofValue, invoke, callFunc, h1, hb, hnm, hm]
  classical
  have hl : ∀ o ob, look objs o = some (0, ob) → look st.objs (ren m o).1 = some ((ren m o).2, renOb m ob) := fun o ob ho => by
    have := leO_mem hob (mem_renO.2 ⟨o, 0, ob, look_mem ho, rfl, rfl, rfl⟩)
    rw [Nat.add_zero] at this
    exact this
  have hD : ∀ o x, look objs o = some x → ∃ ob, x = (0, ob) := fun o ⟨e, ob⟩ hx => ⟨ob, by rw [zero_ep hz hx]⟩
  have hDl : ∀ o x, look objs o = some x → ∃ y, look st.objs (ren m o).1 = some y := fun o x hx => by
    obtain ⟨ob, rfl⟩ := hD o x hx
    exact ⟨_, hl o ob hx⟩
  have hidsr0 : ∀ l : List (Nat × Nat × Ob), idsL (renO m l) = l.map fun p => (ren m p.1).1 := fun l => by
    induction l with
    | nil => rfl
    | cons p r ih => obtain ⟨o, e, b⟩ := p; show (ren m o).1 :: idsL (renO m r) = _; rw [ih]; rfl
  have hnd0 := nodupB_ok hinj
  rw [hidsr0] at hnd0
  have hinj0 : ∀ o o' x x', look objs o = some x → look objs o' = some x' → (ren m o).1 = (ren m o').1 → o = o' := fun o o' x x' hx hx' he => by
    have := nodup_map_inj (f := fun p : Nat × Nat × Ob => (ren m p.1).1) hnd0 (look_mem hx) (look_mem hx') he
    exact congrArg (·.1) this
  let plc : Nat → Value := fun o => pl (ren m o).1
  let Fc : Nat → Nat → Prop := fun o => F (ren m o).1
  let Bx : Nat → Prop := fun b => Free B W.o (look st.objs) F w b ∨ ((∀ x, Post x → pureM (R x) (O x) = true) ∧ ∃ o y, look st.objs o = some y ∧ (∀ o' x, look objs o' = some x → (ren m o').1 ≠ o) ∧ F o b)
  have hFE : ∀ b, Free B W.o (look st.objs) F w b → Free Bx (fun _ => False) (look objs) Fc w b := fun b hb => ⟨.inl (.inl hb), hb.2.1, fun o x hx hf => by
    obtain ⟨y, hy⟩ := hDl o x hx
    exact hb.2.2 _ _ hy hf⟩
  have hB : ∀ b, Bx b → b < w.heap.size := fun b hb => by
    rcases hb with hb | ⟨_, o, y, hy, _, hf⟩
    · exact hb.2.1
    · exact (hS.range _ _ _ hy hf).2
  have hEnv : Env0 P w Bx objs plc Fc := by
    refine ⟨fun o ep ob hx => ?_, fun o x b hx hf => ?_, fun o o' x x' b hne hx hx' hf => ?_⟩
    · have h0 := zero_ep hz hx
      subst h0
      refine ObR.unren (m := m) (fun x u hxi hc => C0.unren (lk := look st.objs) (pl := pl) (fun i hi => ?_) hFE hc) (fun x u hr => hr.mono hFE fun _ _ => rfl) (hS.objs _ _ _ (hl o ob hx))
      obtain ⟨y, hy⟩ := look_has (List.all_eq_true.1 hcl i (List.mem_flatMap.2 ⟨_, look_mem hx, hxi i hi⟩))
      obtain ⟨ob', rfl⟩ := hD i y hy
      exact ⟨ob', hy, hl i ob' hy, rfl⟩
    · obtain ⟨y, hy⟩ := hDl o x hx
      exact (hS.range _ _ b hy hf).2
    · obtain ⟨y, hy⟩ := hDl o x hx
      obtain ⟨y', hy'⟩ := hDl o' x' hx'
      exact hS.apart _ _ _ _ b (fun e => hne (hinj0 o o' _ _ hx hx' e)) hy hy' hf
  have hargs := hS.seeMA (m := m) (objs := objs) (plc := plc) (FrE := Free Bx (fun _ => False) (look objs) Fc w) (fun o ob hx => ⟨hl o ob hx, rfl⟩) hFE c.args.toList as
    (fun i hi => by
      obtain ⟨y, hy⟩ := look_has (List.all_eq_true.1 hid i hi)
      obtain ⟨ob', rfl⟩ := hD i y hy
      exact ⟨ob', hy⟩)
    (fun o hout' y b hy hf => by
      rcases hout with hp | ⟨hp1, hp2⟩
      · rw [hp] at hout'
        cases hout'
      · have hno : ∀ o' x, look objs o' = some x → (ren m o').1 ≠ o := fun o' x hx e => by
          have h5 := List.all_eq_true.1 hp2 o hout'
          obtain ⟨ob', rfl⟩ := hD o' x hx
          have h6 : (idsL (renO m objs)).contains o = true := List.contains_iff_mem.2 (List.mem_map.2 ⟨_, mem_renO.2 ⟨o', 0, ob', look_mem hx, rfl, rfl, rfl⟩, e⟩)
          rw [h6] at h5
          cases h5
        refine ⟨.inl (.inr ⟨hp1, o, y, hy, hno, hf⟩), (hS.range _ _ _ hy hf).2, fun o' x hx hf' => ?_⟩
        obtain ⟨y', hy'⟩ := hDl o' x hx
        exact hS.apart _ _ _ _ b (hno o' x hx) hy' hy hf' hf) hs
  unfold Oper.wp
  rw [hrun, Oper.upon_enter]
  refine (hcall w Bx _ plc Fc hB hEnv hargs).mono ?_
  rintro e w' ⟨x0, u, pl', F', FF, hpost, rfl, hkp, hend⟩
  obtain ⟨v, us, us', hi, hnd', hnew, hp, hsm, hin, hre, hKK⟩ := hK x0 hpost
  have hpu0 : (∀ x, Post x → pureM (R x) (O x) = true) → pureM (R x0) (O x0) = true := fun h => h x0 hpost
  generalize O x0 = objs' at *
  generalize R x0 = r at *
  have hnd := nodupB_ok hnd'
  rw [← hre.eq] at hKK
  clear hnd'
  have hDD : ∀ o x, look objs o = some x → ∃ y, look objs' o = some y := fun o x hx => look_has (List.all_eq_true.1 hin o (look_ids hx))
  have hidsr : idsL (renO m objs' ++ us) = (objs'.map fun p => (ren m p.1).1) ++ idsL us := by
    rw [← hidsr0]
    unfold idsL
    rw [List.map_append]
  have hnd' := hnd
  rw [hidsr, List.nodup_append] at hnd'
  obtain ⟨hnd1, hnd2, hnd3⟩ := hnd'
  have hinj : ∀ o o' x x', look objs' o = some x → look objs' o' = some x' → (ren m o).1 = (ren m o').1 → o = o' := fun o o' x x' hx hx' he => by
    have := nodup_map_inj (f := fun p : Nat × Nat × Ob => (ren m p.1).1) hnd1 (look_mem hx) (look_mem hx') he
    exact congrArg (·.1) this
  have hus : us = (if isOwnV r = true then [] else upd2 false (look st.objs) (1000 * d) r) := by
    cases hi with
    | ptr => rfl
    | hnd => rfl
    | imp h1 h2 => rw [if_neg (by rw [h1]; decide), h2.eq.2]
  have husm : ∀ i e b, (i, e, b) ∈ us → isOwnV r = false := fun i e b hi' => by
    cases ho : isOwnV r with
    | false => rfl
    | true => rw [hus, if_pos ho] at hi'; cases hi'
  show next (a.put o.dst u) w'
  let site := 1000 * d
  have hmem : ∀ i e b, (i, e, b) ∈ us → (i, e, b) ∈ upd2 false (look st.objs) (1000 * d) r := fun i e b hi' => by
    have g1 := husm i e b hi'
    rw [hus, if_neg (by rw [g1]; decide)] at hi'
    exact hi'
  have hdec : ∀ j k, k < 64 → (site + j * 64 + k - site) / 64 = j ∧ (site + j * 64 + k - site) % 64 = k := fun j k hk => by omega
  let Is : Nat → Prop := fun i => ∃ o x, look objs' o = some x ∧ (ren m o).1 = i
  let τ : Nat → Nat := fun i => if h : Is i then h.choose else 0
  have hτ : ∀ o x, look objs' o = some x → τ (ren m o).1 = o := fun o x hx => by
    have h : Is (ren m o).1 := ⟨o, x, hx, rfl⟩
    have e : τ (ren m o).1 = h.choose := dif_pos h
    rw [e]
    obtain ⟨y, hy, hr⟩ := h.choose_spec
    exact hinj _ _ _ _ hy hx hr
  let nv : Nat → Value := fun i => if Is i then pl' (τ i) else celU u ((i - site) / 64) ((i - site) % 64)
  let nF : Nat → Nat → Prop := fun i => if Is i then F' (τ i) else FF ((i - site) / 64) ((i - site) % 64)
  let Nw : Nat → Prop := fun i => Is i ∨ ∃ e b, (i, e, b) ∈ us
  have hnis : ∀ i e b, (i, e, b) ∈ us → ¬ Is i := fun i e b hi ⟨o, x, hx, hr⟩ =>
    hnd3 i (List.mem_map.2 ⟨_, look_mem hx, hr⟩) i (List.mem_map.2 ⟨_, hi, rfl⟩) rfl
  have nv1 : ∀ o x, look objs' o = some x → nv (ren m o).1 = pl' o := fun o x hx => by
    have e : nv (ren m o).1 = pl' (τ (ren m o).1) := if_pos ⟨o, x, hx, rfl⟩
    rw [e, hτ o x hx]
  have nF1 : ∀ o x, look objs' o = some x → nF (ren m o).1 = F' o := fun o x hx => by
    have e : nF (ren m o).1 = F' (τ (ren m o).1) := if_pos ⟨o, x, hx, rfl⟩
    rw [e, hτ o x hx]
  have nF2 : ∀ i, ¬ Is i → nF i = FF ((i - site) / 64) ((i - site) % 64) := fun i hi => if_neg hi
  have nv2 : ∀ i, ¬ Is i → nv i = celU u ((i - site) / 64) ((i - site) % 64) := fun i hi => if_neg hi
  have hmemr : ∀ o ep ob, look objs' o = some (ep, ob) → ((ren m o).1, (ren m o).2 + ep, renOb m ob) ∈ renO m objs' ++ us := fun o ep ob hx => List.mem_append_left _ (mem_renO.2 ⟨o, ep, ob, look_mem hx, rfl, rfl, rfl⟩)
  have huniq : ∀ i e b, (i, e, b) ∈ renO m objs' ++ us → look (updl st.objs (renO m objs' ++ us)) i = some (e, b) := fun i e b hi => by
    refine look_updl_mem _ _ _ _ _ hi fun e' b' hi' => ?_
    have := nodup_map_inj (f := fun p : Nat × Nat × Ob => p.1) hnd hi' hi rfl
    cases this
    exact ⟨rfl, rfl⟩
  have hFrM : ¬ pureM r objs' = true → ∀ (NF : Nat → Prop), (∀ b, (Free B W.o (look st.objs) F w b ∨ w.heap.size ≤ b ∨ ∃ j x, Nw j ∧ look st.objs j = some x ∧ F j b) → b < w'.heap.size → (∀ i, Nw i → ¬ nF i b) → NF b) →
      ∀ b, FrM Bx (En.o ⟨w, MSet objs Fc, objs, plc⟩) w' (look objs') F' FF b → NF b := fun hpu NF hNF b hb => by
    obtain ⟨q1, q2, q3, q4⟩ := hb
    refine hNF b ?_ q2 fun i hi hf => ?_
    · rcases q1 with (q1 | ⟨q1, _⟩) | (q1 | ⟨o, x, hx, hf⟩)
      · exact .inl q1
      · exact absurd (hpu0 q1) hpu
      · exact .inr (.inl q1)
      · obtain ⟨y, hy⟩ := hDl o x hx
        obtain ⟨z, hz1⟩ := hDD o x hx
        exact .inr (.inr ⟨_, y, .inl ⟨o, z, hz1, rfl⟩, hy, hf⟩)
    · rcases hi with ⟨o, x, hx, rfl⟩ | ⟨e, ob, hi⟩
      · rw [nF1 o x hx] at hf
        exact q3 o x hx hf
      · rw [nF2 i (hnis i e ob hi)] at hf
        exact q4 _ _ hf
  have hOM : ∀ b, En.o ⟨w, MSet objs Fc, objs, plc⟩ b → w.heap.size ≤ b ∨ ∃ j x, Nw j ∧ look st.objs j = some x ∧ F j b := fun b hb => by
    rcases hb with hb | ⟨o, x, hx, hf⟩
    · exact .inl hb
    · obtain ⟨y, hy⟩ := hDl o x hx
      obtain ⟨z, hz1⟩ := hDD o x hx
      exact .inr ⟨_, y, .inl ⟨o, z, hz1, rfl⟩, hy, hf⟩
  have hkk : ∀ b, b < w.heap.size → (∀ i x, Nw i → look st.objs i = some x → ¬ F i b) → w'.heap[b]? = w.heap[b]? := fun b hb hnf => hkp.block b fun ho' => by
      rcases hOM b ho' with h | ⟨j, x, hj, hx, hf⟩
      · omega
      · exact hnf j x hj hx hf
  obtain ⟨pl2, F2, hS', hpl2, hfree, hgo, hsame⟩ := hS.many (w' := w') (objs' := updl st.objs (renO m objs' ++ us)) (nv := nv) (nF := nF) (Nw := Nw)
    ⟨hkp.os, hkp.tape, hkp.output, hkp.size, fun k hk => hkp.block k fun ho' => by
      rcases ho' with ho' | ⟨o, x, hx, hf⟩
      · exact hk (.inl (Nat.le_trans hS.below.size ho'))
      · obtain ⟨y, hy⟩ := hDl o x hx
        exact hk (hS.range _ _ _ hy hf).1⟩
    hkk
    (fun i hi => look_updl_not _ _ _ fun e b he => by
      rcases List.mem_append.1 he with he | he
      · obtain ⟨o, e0, b0, h5, rfl, _⟩ := mem_renO.1 he
        obtain ⟨y, hy⟩ := look_has (l := objs') (List.contains_iff_mem.2 (List.mem_map.2 ⟨_, h5, rfl⟩))
        exact hi (.inl ⟨o, y, hy, rfl⟩)
      · exact hi (.inr ⟨e, b, he⟩))
    (fun i hi => by
      rcases hi with ⟨o, ⟨ep', ob'⟩, hx, rfl⟩ | ⟨e, b, hi⟩
      · refine ⟨_, _, huniq _ _ _ (hmemr o ep' ob' hx), ?_⟩
        cases hxo : look objs o with
        | some x =>
          obtain ⟨ob, rfl⟩ := hD o x hxo
          obtain ⟨ep2, ob2, h5, h6⟩ := hend.lks o ob hxo
          rw [hx] at h5
          cases h5
          refine ⟨fun ep0 ob0 h0 => ?_, fun h0 => (by rw [hl o ob hxo] at h0; cases h0)⟩
          rw [hl o ob hxo] at h0
          cases h0
          rcases h6 with h6 | ⟨h6, h7, h8, h9⟩
          · exact .inl (by omega)
          · exact .inr ⟨by omega, (nv1 o _ hx).trans h7, (renOb_row (P := P) m ob').1.trans (h8.trans (renOb_row (P := P) m ob).1.symm), (renOb_row m ob').2.trans (h9.trans (renOb_row m ob).2.symm)⟩
        | none =>
          have h5 := List.all_eq_true.1 hnew _ (look_mem hx)
          rw [Bool.or_eq_true] at h5
          have h6 : ¬ (idsL objs).contains o = true := fun h => by
            obtain ⟨y, hy⟩ := look_has h
            rw [hxo] at hy
            cases hy
          have h7 := h5.resolve_left h6
          refine ⟨fun ep0 ob0 h0 => .inl ?_, fun h0 => ?_⟩
          · simp only [h0] at h7
            exact Nat.le_of_ble_eq_true h7
          · simp only [h0] at h7
            exact Nat.le_of_ble_eq_true h7
      · obtain ⟨_, j, k, fl, t, els, g1, rfl, g2, g3⟩ := mem_upd2.1 (hmem _ _ _ hi)
        exact ⟨e, b, huniq _ _ _ (List.mem_append_right _ hi), fun ep0 ob0 h0 => .inl (by rw [g2]; exact nep_lt h0), fun _ => by rw [g2]; exact nep_pos _⟩)
    (fun i b hi hf => by
      rcases hi with ⟨o, x, hx, rfl⟩ | ⟨e, ob, hi⟩
      · rw [nF1 o x hx] at hf
        have := hend.range o x b hx hf
        exact ⟨this.2, hOM b this.1⟩
      · rw [nF2 i (hnis i e ob hi)] at hf
        have := hend.rangeF _ _ b hf
        exact ⟨this.2, hOM b this.1⟩)
    (fun i i' b hi hi' hne hf => by
      rcases hi with ⟨o, x, hx, rfl⟩ | ⟨e, ob, hi⟩
      · rw [nF1 o x hx] at hf
        rcases hi' with ⟨o', x', hx', rfl⟩ | ⟨e', ob', hi'⟩
        · rw [nF1 o' x' hx']
          exact hend.apart o o' x x' b (fun e => hne (by rw [e])) hx hx' hf
        · rw [nF2 i' (hnis i' e' ob' hi')]
          exact fun hf' => hend.apartM o x _ _ b hx hf' hf
      · rw [nF2 i (hnis i e ob hi)] at hf
        rcases hi' with ⟨o', x', hx', rfl⟩ | ⟨e', ob', hi'⟩
        · rw [nF1 o' x' hx']
          exact fun hf' => hend.apartM o' x' _ _ b hx' hf hf'
        · rw [nF2 i' (hnis i' e' ob' hi')]
          obtain ⟨hro, j, k, fl, t, els, g1, rfl, g2, g3⟩ := mem_upd2.1 (hmem _ _ _ hi)
          obtain ⟨_, j', k', fl', t', els', g1', rfl, g2', g3'⟩ := mem_upd2.1 (hmem _ _ _ hi')
          have hk := small_lt hsm g1
          have hk' := small_lt hsm g1'
          refine hend.apartF _ _ _ _ b ?_ hf
          have e1 := hdec j k hk
          have e2 := hdec j' k' hk'
          rw [e1.1, e1.2, e2.1, e2.2]
          omega)
    (fun lk' pl3 NF hNF hlp i ep ob hi hlk => by
      rcases hi with ⟨o, ⟨ep', ob'⟩, hx, rfl⟩ | ⟨e, b, hi⟩
      · have e1 := huniq _ _ _ (hmemr o ep' ob' hx)
        rw [hlk] at e1
        cases e1
        rw [nv1 o _ hx, nF1 o _ hx]
        have hh := hend.obs o ep' ob' hx
        have hlk3 : ∀ o ep ob, look objs' o = some (ep, ob) → lk' (ren m o).1 = some ((ren m o).2 + ep, renOb m ob) ∧ pl3 (ren m o).1 = pl' o := fun o ep ob hx => by
          obtain ⟨q1, q2⟩ := hlp (ren m o).1 (.inl ⟨o, _, hx, rfl⟩)
          exact ⟨q1.trans (huniq _ _ _ (hmemr o ep ob hx)), q2.trans (nv1 o _ hx)⟩
        by_cases hpu : pureM r objs' = true
        · have hpo : pureOb ob' = true := by
            have h5 : (pureR r && objs'.all fun p => pureOb p.2.2) = true := hpu
            rw [Bool.and_eq_true] at h5
            exact List.all_eq_true.1 h5.2 _ (look_mem hx)
          have hcell : ∀ x, (match ob' with | .box _ cs => x ∈ cs | .hole _ _ _ y => x = y | _ => False) → (match x with | .t y => y.cst | .rptr .. => false | _ => true) = true := fun x hxm => by
            cases ob' with
            | box ty cs => exact List.all_eq_true.1 hpo x hxm
            | hole e els q y => subst hxm; exact hpo
            | _ => exact hxm.elim
          refine hh.renm (fun x u hxm hc => C0.renm hlk3 (fun y e hr => ?_) (fun cs off e => ?_) hc) (fun hrow x u hr => ?_)
          · have := hcell x hxm
            subst e
            exact hr.cst this
          · have := hcell x hxm
            subst e
            cases this
          · cases ob' with
            | row fl d e els => rw [hrow] at hpo; cases hpo
            | _ => exact hrow.elim
        · have hsub := hFrM hpu NF hNF
          exact hh.renm (fun x u hxm hc => C0.renm hlk3 (fun y e hr => hr.mono hsub fun _ _ => rfl) (fun cs off e => hsub) hc) (fun hrow x u hr => hr.mono hsub fun _ _ => rfl)
      · have e1 := huniq _ _ _ (List.mem_append_right _ hi)
        rw [hlk] at e1
        cases e1
        rw [nv2 i (hnis i _ _ hi), nF2 i (hnis i _ _ hi)]
        obtain ⟨hro, j, k, fl, t, els, g1, rfl, g2, rfl⟩ := mem_upd2.1 (hmem _ _ _ hi)
        have hk := small_lt hsm g1
        have hres := hend.res
        unfold R2m at hres
        rw [if_neg (by rw [husm _ _ _ hi]; decide)] at hres
        have h5 := cellU hres g1
        refine .inl ⟨rfl, ?_⟩
        rw [(hdec j k hk).1, (hdec j k hk).2]
        exact h5)
  have hval : C2 P w' (look (updl st.objs (renO m objs' ++ us))) pl2 (Free B W.o (look (updl st.objs (renO m objs' ++ us))) F2 w') v u := by
    have hres := hend.res
    unfold R2m at hres
    cases ho : isOwnV r with
    | true =>
      rw [if_pos ho] at hres
      have hlk3 : ∀ o ep ob, look objs' o = some (ep, ob) → look (updl st.objs (renO m objs' ++ us)) (ren m o).1 = some ((ren m o).2 + ep, renOb m ob) ∧ pl2 (ren m o).1 = pl' o := fun o ep ob hx =>
        ⟨huniq _ _ _ (hmemr o ep ob hx), (hpl2 _ (.inl ⟨o, _, hx, rfl⟩)).trans (nv1 o _ hx)⟩
      have hv : renV0 m r = v := by
        cases hi with
        | ptr h1 h2 => subst h2; simp [renV0, h1]
        | hnd h1 h2 => subst h2; simp [renV0, h1]
        | imp h1 h2 => rw [h1] at ho; cases ho
      rw [← hv]
      refine (C0.renm hlk3 (fun y e => ?_) (fun cs off e => ?_) hres).c2
      · subst e; cases ho
      · subst e; cases ho
    | false =>
      rw [if_neg (by rw [ho]; decide)] at hres
      have hus' : us = upd2 false (look st.objs) (1000 * d) r := by rw [hus, if_neg (by rw [ho]; decide)]
      have hv : imp2 false (look st.objs) site r = v := by
        cases hi with
        | ptr => cases ho
        | hnd => cases ho
        | imp h1 h2 => exact h2.eq.1
      rw [← hv]
      refine imp2_ok hres (fun j k y x hcell hrd => ?_) (fun j k fl e els hcell hro => ?_) (fun j k b hro hb => by cases hro)
      · by_cases hpu : pureM r objs' = true
        · have h5 : (pureR r && objs'.all fun p => pureOb p.2.2) = true := hpu
          rw [Bool.and_eq_true] at h5
          exact hrd.flat (pure_flat h5.1 hcell)
        · exact hrd.mono (hFrM hpu _ hfree) fun _ _ => rfl
      · have hm : (site + j * 64 + k, nep (look st.objs (site + j * 64 + k)), Ob.row fl true e els) ∈ us := by rw [hus']; exact mem_upd2.2 ⟨rfl, j, k, fl, e, els, hcell, rfl, rfl, rfl⟩
        have hk := small_lt hsm hcell
        refine ⟨huniq _ _ _ (List.mem_append_right _ hm), (hpl2 _ (.inr ⟨_, _, hm⟩)).trans ?_⟩
        rw [nv2 _ (hnis _ _ _ hm), (hdec j k hk).1, (hdec j k hk).2]
  have h4 := hS'.put hval o.dst
  rw [← upds_eq] at h4
  refine hn _ _ _ _ _ _ h4 ?_ hKK
  rw [put_objs]
  refine ⟨hgo.more, hgo.heap, fun i x b hx hno hf => ?_⟩
  have hnN : ¬ Nw i := fun hN => by
    rcases hN with ⟨q, y, hy, rfl⟩ | ⟨e, ob, he⟩
    · exact hno _ _ (hmemr q y.1 y.2 hy)
    · exact hno e ob (List.mem_append_right _ he)
  exact ⟨by rw [hsame i hnN]; exact hf, hkk b (hS.range i x b hx hf).2 fun j y hj hy hf' => hS.apart i j _ _ b (fun e => hnN (by rw [e]; exact hj)) hx hy hf hf'⟩
theorem OpS.call_mut {c : Call} {g : FuncId} {objs objs' : List (Nat × Nat × Ob)} {as : List V} {r v : V} {d : Nat} {m : List (Nat × Nat × Nat)} {us us' : List (Nat × Nat × Ob)} (ho : o.op = .call c) (hd : o.dst = some d) (hc : c.callee = .value (.func g)) (hA : AM P g objs as objs' r)
    (hs : SeeMA m (look st.objs) (c.args.toList.map st.ev) as) (hob : leO st.objs (renO m objs)) (hid : ((as.flatMap ids1).all fun o => (idsL objs).contains o) = true) (hcl : ((objs.flatMap fun p => idsOb p.2.2).all fun o => (idsL objs).contains o) = true) (hinj : nodupB (idsL (renO m objs)) = true)
    (hi : Imp3 m (look st.objs) (1000 * d) r v us) (hnd : nodupB (idsL (renO m objs' ++ us)) = true) (hnew : newOk st m objs objs' = true) (hp : (pureM r objs' = true ∧ ((outsA (c.args.toList.map st.ev) as).all fun o => !(idsL (renO m objs)).contains o) = true) ∨ outsA (c.args.toList.map st.ev) as = []) (hsm : small2 r = true)
    (hin : ((idsL objs).all fun o => (idsL objs').contains o) = true) (hre : RenR m objs' us') (hK : KE v (us' ++ us)) : OpS P B W o st KE :=
  OpS.call_mutP ho hd hc hA hs hob hid hcl (hp.elim (fun h => .inr ⟨fun _ _ => h.1, h.2⟩) .inl) hinj fun _ _ => ⟨v, us, us', hi, hnd, hnew, hp, hsm, hin, hre, hK⟩
end
end Go.Proofs.Ytkdcpdbgdijbnaa.Ab
