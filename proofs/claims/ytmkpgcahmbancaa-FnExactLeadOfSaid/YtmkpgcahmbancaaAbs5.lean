/- What is proved: the calculus of abstract states: contracts, lists of operations, code, functions.
   Conditions: none beyond those that each lemma names. -/
import Derived.Test.YtmkpgcahmbancaaAbs4
namespace Go.Proofs.Ytmkpgcahmbancaa.Ab
set_option linter.unusedSimpArgs false
set_option linter.unusedVariables false
open Go.RowKit

theorem flatten_cut {α : Type} {s : Nat} : ∀ {els : List (List α)} (_ : ∀ x ∈ els, x.length = s) (i n : Nat), ((els.drop i).take n).flatten = (els.flatten.drop (i * s)).take (n * s)
  | [], _, i, n => by simp
  | x :: els, hu, 0, 0 => by simp
  | x :: els, hu, 0, n + 1 => by
    have hx : x.length = s := hu x (by simp)
    have ih := flatten_cut (els := els) (fun y hy => hu y (by simp [hy])) 0 n
    simp only [List.drop_zero, Nat.zero_mul] at ih ⊢
    have hs : (n + 1) * s = x.length + n * s := by rw [hx, Nat.add_mul, Nat.one_mul]; omega
    rw [List.take_succ_cons, List.flatten_cons, ih, List.flatten_cons, hs, List.take_append, List.take_of_length_le (l := x) (by omega), Nat.add_sub_cancel_left]
  | x :: els, hu, i + 1, n => by
    have hx : x.length = s := hu x (by simp)
    have ih := flatten_cut (els := els) (fun y hy => hu y (by simp [hy])) i n
    have hs : (i + 1) * s = x.length + i * s := by rw [hx, Nat.add_mul, Nat.one_mul]; omega
    rw [List.drop_succ_cons, ih, List.flatten_cons, hs, List.drop_append, List.drop_of_length_le (l := x) (by omega), List.nil_append, Nat.add_sub_cancel_left]
/-! ### Contracts -/
def noLk : Nat → Option (Nat × Ob) := fun _ => none
def noPl : Nat → Value := fun _ => undef
section
variable (P : Program) (w : World) (Fr : Nat → Prop)
def R0 (F : Nat → Prop) : V → Value → Prop
  | .t x, u => Rd P w Fr x u
  | .fr fl e els, u => Ow P w (.lst fl e els) u F
  | .lit v, u => u = v
  | _, _ => False
def R1 (F : Nat → Nat → Prop) : V → Value → Prop
  | .agg cs, u => ∃ us : List Value, u = .agg us.toArray ∧ us.length = cs.length ∧ ∀ (k : Nat) (v : V) (x : Value), cs[k]? = some v → us[k]? = some x → R0 P w Fr (F k) v x
  | v, u => R0 P w Fr (F 0) v u
def R2 (F : Nat → Nat → Nat → Prop) : V → Value → Prop
  | .tup vs, u => ∃ us : List Value, u = .tuple us.toArray ∧ us.length = vs.length ∧ ∀ (k : Nat) (v : V) (x : Value), vs[k]? = some v → us[k]? = some x → R1 P w Fr (F k) v x
  | v, u => R1 P w Fr (F 0) v u
end
def ResR (P : Program) (w w' : World) (B : Nat → Prop) (r : V) (u : Value) : Prop :=
  ∃ F : Nat → Nat → Nat → Prop, R2 P w' (fun b => (B b ∨ w.heap.size ≤ b) ∧ b < w'.heap.size ∧ ∀ j k, ¬ F j k b) F r u ∧ (∀ j k b, F j k b → w.heap.size ≤ b ∧ b < w'.heap.size) ∧
    ∀ j k j' k' b, (j ≠ j' ∨ k ≠ k') → F j k b → ¬ F j' k' b
def Enters (P : Program) (f : FuncId) : Prop := ∃ fn, P.funcs[f]? = some fn ∧ fn.body.isNone = false ∧ (fn.name == "runtime.NumGoroutine") = false
def AC (P : Program) (f : FuncId) (as : List V) (r : V) : Prop := Enters P f ∧
  ∀ (w : World) (B : Nat → Prop) (args : List Value), (∀ b, B b → b < w.heap.size) → Pw (C1 P w noLk noPl B) as args → Calls P f args.toArray w fun e w' => ∃ u, e = .returned u ∧ Below w.heap.size w w' ∧ ResR P w w' B r u

/-! ### What is handed over -/
def See0 (lk : Nat → Option (Nat × Ob)) : V → V → Prop
  | .t x, .t y => x = y ∨ (x = .nil ∧ ∃ fl e, y = .lst fl e [])
  | .hnd o ep, .t y => ∃ fl d e els, lk o = some (ep, .row fl d e els) ∧ y = .lst fl e els
  | .view o ep i n, .t y => ∃ fl d e els, lk o = some (ep, .row fl d e els) ∧ i + n ≤ els.length ∧ y = .lst fl e ((els.drop i).take n)
  | .lit v, .lit v' => v = v'
  | _, _ => False
def SeeL (lk : Nat → Option (Nat × Ob)) : List V → List V → Prop
  | [], [] => True
  | c :: cs, d :: ds => See0 lk c d ∧ SeeL lk cs ds
  | _, _ => False
def See1 (lk : Nat → Option (Nat × Ob)) : V → V → Prop
  | .agg cs, .agg ds => SeeL lk cs ds
  | v, x => See0 lk v x
def SeeA (lk : Nat → Option (Nat × Ob)) : List V → List V → Prop
  | [], [] => True
  | c :: cs, d :: ds => See1 lk c d ∧ SeeA lk cs ds
  | _, _ => False
section
variable {P : Program} {B : Nat → Prop} {W : En} {st : St} {a : Act} {w : World} {pl : Nat → Value} {F : Nat → Nat → Prop}
/-- No handle among the arguments. -/
def plain0 : V → Bool
  | .hnd .. => false
  | .view .. => false
  | _ => true
/-- The objects whose rows a value reads. -/
def rids0 : V → List Nat
  | .hnd o _ => [o]
  | .view o _ _ _ => [o]
  | _ => []
def rids1 : V → List Nat
  | .agg cs => cs.flatMap rids0
  | v => rids0 v
theorem plain_rids0 {v : V} (h : plain0 v = true) : rids0 v = [] := by cases v <;> first | rfl | cases h
def plain1 : V → Bool
  | .agg cs => cs.all plain0
  | v => plain0 v
theorem plain_rids1 {v : V} (h : plain1 v = true) : rids1 v = [] := by
  cases v with
  | agg cs =>
    have h' : cs.all plain0 = true := h
    show cs.flatMap rids0 = []
    rw [List.flatMap_eq_nil_iff]
    exact fun x hx => plain_rids0 (List.all_eq_true.1 h' x hx)
  | _ => first | rfl | exact Bool.noConfusion (show false = true from h)
theorem SimW.see0 (h : SimW P B W st a w pl F) {Bx : Nat → Prop} (hB : ∀ b, Free B W.o (look st.objs) F w b → Bx b) {v x : V} (hO : ∀ o, o ∈ rids0 v → ∀ y b, look st.objs o = some y → F o b → Bx b) {u : Value} (hv : C0 P w (look st.objs) pl (Free B W.o (look st.objs) F w) v u) (hs : See0 (look st.objs) v x) : C0 P w noLk noPl Bx x u := by
  cases v with
  | t y =>
    cases x with
    | t z =>
      rcases hs with rfl | ⟨rfl, fl, e, rfl⟩
      · exact Rd.mono hv hB fun _ _ => rfl
      · have hv' : Rd P w (Free B W.o (look st.objs) F w) .nil u := hv
        cases hv'
        exact .lst (els := []) [] (Nat.le_refl _) (by simp [maxLen]) (by simp) (by simp) rfl (fun h => absurd rfl h) (fun k x u h => by simp at h)
    | _ => exact hs.elim
  | hnd o ep =>
    have hO' := hO o (by simp [rids0])
    cases x with
    | t z =>
      obtain ⟨fl, d, e, els, hl, rfl⟩ := hs
      obtain ⟨_, ep', ob, h2, h3, h4⟩ := hv
      rw [hl] at h2
      cases h2
      have hu := (h4 rfl).2
      obtain ⟨us, hp⟩ := row_parts (h.objs o _ _ hl)
      obtain ⟨A, c, g1, g2, g3, g4⟩ := hp.slice
      rw [hu, g1]
      refine .lst us g2 g3 hp.uni hp.flt hp.len (fun hn => ?_) fun k x u hx hv => (hp.rd k x u hx hv).mono (fun b hb => ?_) fun _ _ => rfl
      · obtain ⟨g, off, rfl, g5, _, g6⟩ := g4 hn
        exact ⟨_, rfl, hO' _ _ hl (hp.top _ g5), fun k u hk => by rw [add_lit0]; exact g6 k u hk⟩
      · rcases hb with hb | hb
        · exact hO' _ _ hl hb
        · exact hB _ hb
    | _ => exact hs.elim
  | view o ep i n =>
    have hO' := hO o (by simp [rids0])
    cases x with
    | t z =>
      obtain ⟨fl, d, e, els, hl, hin, rfl⟩ := hs
      obtain ⟨_, ep', ob, h2, h3, h4⟩ := hv
      rw [hl] at h2
      cases h2
      obtain ⟨_, A, c, hu, hc1, hc2, hA⟩ := h4 rfl
      obtain ⟨us, hp⟩ := row_parts (h.objs o _ _ hl)
      obtain ⟨A0, c0, g1, g2, g3, g4⟩ := hp.slice
      have hnl : ((els.drop i).take n).length = n := by rw [List.length_take, List.length_drop]; omega
      have hcut := flatten_cut hp.uni i n
      have hsub : ∀ (k : Nat) (x : T), ((els.drop i).take n).flatten[k]? = some x → k < n * P.cellsOf e ∧ els.flatten[i * P.cellsOf e + k]? = some x := fun k x hx => by
        rw [hcut, List.getElem?_take] at hx
        split at hx
        · rename_i hk
          rw [List.getElem?_drop] at hx
          exact ⟨hk, hx⟩
        · cases hx
      have hsubu : ∀ (k : Nat) (u : Value), ((us.drop (i * P.cellsOf e)).take (n * P.cellsOf e))[k]? = some u → us[i * P.cellsOf e + k]? = some u := fun k u hx => by
        rw [List.getElem?_take] at hx
        split at hx
        · rw [List.getElem?_drop] at hx; exact hx
        · cases hx
      rw [hu]
      show Rd P w Bx (.lst fl e ((els.drop i).take n)) (.slice A n c)
      have hgoal : Rd P w Bx (.lst fl e ((els.drop i).take n)) (.slice A ((els.drop i).take n).length c) := ?_
      · rwa [hnl] at hgoal
      refine .lst ((us.drop (i * P.cellsOf e)).take (n * P.cellsOf e)) (by rw [hnl]; exact hc1) hc2 (fun x hx => hp.uni x (List.mem_of_mem_drop (List.mem_of_mem_take hx))) (fun hf x hx => ?_) ?_ (fun hn => ?_) fun k x u hx hv => ?_
      · obtain ⟨k, hk, rfl⟩ := List.getElem_of_mem hx
        exact hp.flt hf _ (List.mem_of_getElem? (hsub k _ (List.getElem?_eq_getElem hk)).2)
      · rw [hcut, List.length_take, List.length_drop, List.length_take, List.length_drop, hp.len]
      · have hn0 : 0 < n := Nat.pos_of_ne_zero fun e => hn (by rw [e]; simp)
        obtain ⟨g, b, hb, rfl⟩ := hA hn0
        have husn : us ≠ [] := fun e => hn (by rw [e]; simp)
        obtain ⟨g', off, _, g5, g7, g6⟩ := g4 husn
        rw [g7] at hb
        cases hb
        refine ⟨_, rfl, hO' _ _ hl (hp.top _ g5), fun k u hk => ?_⟩
        rw [add_lit0, Nat.add_assoc]
        exact g6 _ u (hsubu k u hk)
      · refine (hp.rd _ x u (hsub k x hx).2 (hsubu k u hv)).mono (fun b hb => ?_) fun _ _ => rfl
        rcases hb with hb | hb
        · exact hO' _ _ hl hb
        · exact hB _ hb
    | _ => exact hs.elim
  | lit y =>
    cases x with
    | lit z => cases hs; exact hv
    | _ => exact hs.elim
  | _ => cases x <;> exact hs.elim
theorem SimW.seeL (h : SimW P B W st a w pl F) {Bx : Nat → Prop} (hB : ∀ b, Free B W.o (look st.objs) F w b → Bx b) : ∀ {cs ds : List V} {us : List Value}, (∀ o, o ∈ cs.flatMap rids0 → ∀ y b, look st.objs o = some y → F o b → Bx b) → Pw (C0 P w (look st.objs) pl (Free B W.o (look st.objs) F w)) cs us → SeeL (look st.objs) cs ds → Pw (C0 P w noLk noPl Bx) ds us
  | [], [], us, _, hp, _ => by rw [List.eq_nil_of_length_eq_zero hp.1]; exact Pw.nil
  | [], _ :: _, _, _, _, hs => hs.elim
  | _ :: _, [], _, _, _, hs => hs.elim
  | _ :: _, _ :: _, [], _, hp, _ => by have := hp.1; simp at this
  | c :: cs, d :: ds, u :: us, hO, hp, hs =>
    Pw.cons (h.see0 hB (fun o ho => hO o (by rw [List.flatMap_cons]; exact List.mem_append_left _ ho)) (hp.2 0 c u rfl rfl) hs.1)
      (h.seeL hB (fun o ho => hO o (by rw [List.flatMap_cons]; exact List.mem_append_right _ ho)) (⟨by have := hp.1; simpa using this, fun k x v hx hv => hp.2 (k + 1) x v (by simpa using hx) (by simpa using hv)⟩) hs.2)
theorem SimW.see1 (h : SimW P B W st a w pl F) {Bx : Nat → Prop} (hB : ∀ b, Free B W.o (look st.objs) F w b → Bx b) {v x : V} (hO : ∀ o, o ∈ rids1 v → ∀ y b, look st.objs o = some y → F o b → Bx b) {u : Value} (hv : C2 P w (look st.objs) pl (Free B W.o (look st.objs) F w) v u) (hs : See1 (look st.objs) v x) : C1 P w noLk noPl Bx x u := by
  cases v with
  | agg cs =>
    cases x with
    | agg ds =>
      obtain ⟨us, h1, h2, h3⟩ := hv
      obtain ⟨g1, g2⟩ := h.seeL hB hO ⟨h2, h3⟩ hs
      exact ⟨us, h1, g1, g2⟩
    | _ => exact hs.elim
  | tup vs => cases x <;> exact hs.elim
  | fr => cases x <;> exact hs.elim
  | junk => cases x <;> exact hs.elim
  | ptr => cases x <;> exact hs.elim
  | rptr => cases x <;> exact hs.elim
  | t y => exact (h.see0 hB (v := .t y) hO hv (by cases x <;> exact hs)).c1
  | hnd o ep => exact (h.see0 hB (v := .hnd o ep) hO hv (by cases x <;> exact hs)).c1
  | view o ep i n => exact (h.see0 hB (v := .view o ep i n) hO hv (by cases x <;> exact hs)).c1
  | lit y => exact (h.see0 hB (v := .lit y) hO hv (by cases x <;> exact hs)).c1
theorem SimW.seeA (h : SimW P B W st a w pl F) {Bx : Nat → Prop} (hB : ∀ b, Free B W.o (look st.objs) F w b → Bx b) : ∀ (xs : List Operand) (as : List V), (∀ o, o ∈ (xs.map st.ev).flatMap rids1 → ∀ y b, look st.objs o = some y → F o b → Bx b) → SeeA (look st.objs) (xs.map st.ev) as → Pw (C1 P w noLk noPl Bx) as (xs.map a.eval)
  | [], [], _, _ => Pw.nil
  | [], _ :: _, _, hs => hs.elim
  | _ :: _, [], _, hs => hs.elim
  | x :: xs, d :: ds, hO, hs => Pw.cons (h.see1 hB (fun o ho => hO o (by rw [List.map_cons, List.flatMap_cons]; exact List.mem_append_left _ ho)) (h.ev x) hs.1)
      (h.seeA hB xs ds (fun o ho => hO o (by rw [List.map_cons, List.flatMap_cons]; exact List.mem_append_right _ ho)) hs.2)
end

/-! ### What comes back -/
def flatR : V → Bool
  | .t x => x.flat
  | .fr .. | .lit _ => true
  | _ => false
def pureR : V → Bool
  | .tup vs => vs.all fun v => match v with | .agg cs => cs.all flatR | v => flatR v
  | .agg cs => cs.all flatR
  | v => flatR v
section
variable (ro : Bool) (lk : Nat → Option (Nat × Ob))
def imp0 (id : Nat) : V → V
  | .fr fl e els => if ro then .t (.lst fl e els) else .hnd id (nep (lk id))
  | v => v
def upd0 (id : Nat) : V → List (Nat × Nat × Ob)
  | .fr fl e els => if ro then [] else [(id, nep (lk id), .row fl true e els)]
  | _ => []
def impL : Nat → List V → List V
  | _, [] => []
  | id, v :: r => imp0 ro lk id v :: impL (id + 1) r
def updL : Nat → List V → List (Nat × Nat × Ob)
  | _, [] => []
  | id, v :: r => upd0 ro lk id v ++ updL (id + 1) r
def imp1 (id : Nat) : V → V
  | .agg cs => .agg (impL ro lk id cs)
  | v => imp0 ro lk id v
def upd1 (id : Nat) : V → List (Nat × Nat × Ob)
  | .agg cs => updL ro lk id cs
  | v => upd0 ro lk id v
def imp1L : Nat → List V → List V
  | _, [] => []
  | id, v :: r => imp1 ro lk id v :: imp1L (id + 64) r
def upd1L : Nat → List V → List (Nat × Nat × Ob)
  | _, [] => []
  | id, v :: r => upd1 ro lk id v ++ upd1L (id + 64) r
def imp2 (id : Nat) : V → V
  | .tup vs => .tup (imp1L ro lk id vs)
  | v => imp1 ro lk id v
def upd2 (id : Nat) : V → List (Nat × Nat × Ob)
  | .tup vs => upd1L ro lk id vs
  | v => upd1 ro lk id v
end
def cellR : V → Nat → Nat → Option V
  | .tup vs, j, k => match vs[j]? with | some (.agg cs) => cs[k]? | some v => if k = 0 then some v else none | none => none
  | .agg cs, j, k => if j = 0 then cs[k]? else none
  | v, j, k => if j = 0 ∧ k = 0 then some v else none
def small1 : V → Bool
  | .agg cs => decide (cs.length ≤ 64)
  | _ => true
def small2 : V → Bool
  | .tup vs => vs.all small1
  | v => small1 v
section
variable {ro : Bool} {lk : Nat → Option (Nat × Ob)}
theorem mem_upd0 {id i e : Nat} {b : Ob} {v : V} : (i, e, b) ∈ upd0 ro lk id v ↔ ro = false ∧ ∃ fl t els, v = .fr fl t els ∧ i = id ∧ e = nep (lk i) ∧ b = .row fl true t els := by
  cases v with
  | fr fl t els =>
    cases ro with
    | false =>
      have : upd0 false lk id (.fr fl t els) = [(id, nep (lk id), .row fl true t els)] := rfl
      rw [this, List.mem_singleton]
      constructor
      · intro h
        cases h
        exact ⟨rfl, fl, t, els, rfl, rfl, rfl, rfl⟩
      · rintro ⟨_, fl', t', els', h, rfl, rfl, rfl⟩
        cases h
        rfl
    | true =>
      have : upd0 true lk id (.fr fl t els) = [] := rfl
      rw [this]
      exact ⟨fun h => (by cases h), fun h => (by cases h.1)⟩
  | _ => exact ⟨fun h => (by cases h), fun ⟨_, _, _, _, h, _⟩ => (by cases h)⟩
theorem mem_updL {e : Nat} {b : Ob} : ∀ {cs : List V} {id i : Nat}, (i, e, b) ∈ updL ro lk id cs ↔ ro = false ∧ ∃ (k : Nat) (fl : Bool) (t : TypeId) (els : List (List T)), cs[k]? = some (.fr fl t els) ∧ i = id + k ∧ e = nep (lk i) ∧ b = .row fl true t els
  | [], _, _ => by simp [updL]
  | v :: r, id, i => by
    unfold updL
    rw [List.mem_append, mem_upd0, mem_updL]
    constructor
    · rintro (⟨h0, fl, t, els, rfl, rfl, h1, h2⟩ | ⟨h0, k, fl, t, els, h1, rfl, h2, h3⟩)
      · exact ⟨h0, 0, fl, t, els, rfl, rfl, h1, h2⟩
      · exact ⟨h0, k + 1, fl, t, els, by simpa using h1, by omega, h2, h3⟩
    · rintro ⟨h0, k, fl, t, els, h1, rfl, h2, h3⟩
      cases k with
      | zero => simp at h1; exact .inl ⟨h0, fl, t, els, h1, rfl, h2, h3⟩
      | succ k => exact .inr ⟨h0, k, fl, t, els, by simpa using h1, by omega, h2, h3⟩
def cell1 : V → Nat → Option V
  | .agg cs, k => cs[k]?
  | v, k => if k = 0 then some v else none
theorem cell1_ne {v : V} (hn : ∀ cs, v ≠ .agg cs) (k : Nat) : cell1 v k = if k = 0 then some v else none := by cases v <;> first | rfl | exact absurd rfl (hn _)
theorem upd1_ne {v : V} (hn : ∀ cs, v ≠ .agg cs) (id : Nat) : upd1 ro lk id v = upd0 ro lk id v := by cases v <;> first | rfl | exact absurd rfl (hn _)
theorem mem_upd1 {e id i : Nat} {b : Ob} {v : V} : (i, e, b) ∈ upd1 ro lk id v ↔ ro = false ∧ ∃ (k : Nat) (fl : Bool) (t : TypeId) (els : List (List T)), cell1 v k = some (.fr fl t els) ∧ i = id + k ∧ e = nep (lk i) ∧ b = .row fl true t els := by
  by_cases hv : ∃ cs, v = .agg cs
  · obtain ⟨cs, rfl⟩ := hv
    exact mem_updL
  · have hn : ∀ cs, v ≠ .agg cs := fun cs e => hv ⟨cs, e⟩
    rw [upd1_ne hn, mem_upd0]
    constructor
    · rintro ⟨h0, fl, t, els, h1, rfl, h2, h3⟩
      exact ⟨h0, 0, fl, t, els, by rw [cell1_ne hn, if_pos rfl, h1], rfl, h2, h3⟩
    · rintro ⟨h0, k, fl, t, els, h1, rfl, h2, h3⟩
      rw [cell1_ne hn] at h1
      split at h1
      · rename_i hk
        subst hk
        exact ⟨h0, fl, t, els, Option.some.inj h1, rfl, h2, h3⟩
      · cases h1
theorem mem_upd1L {e : Nat} {b : Ob} : ∀ {vs : List V} {id i : Nat}, (i, e, b) ∈ upd1L ro lk id vs ↔ ro = false ∧ ∃ (j k : Nat) (v : V) (fl : Bool) (t : TypeId) (els : List (List T)), vs[j]? = some v ∧ cell1 v k = some (.fr fl t els) ∧ i = id + j * 64 + k ∧ e = nep (lk i) ∧ b = .row fl true t els
  | [], _, _ => by simp [upd1L]
  | v :: r, id, i => by
    unfold upd1L
    rw [List.mem_append, mem_upd1, mem_upd1L]
    constructor
    · rintro (⟨h0, k, fl, t, els, h1, rfl, h2, h3⟩ | ⟨h0, j, k, v, fl, t, els, h1, h2, rfl, h3, h4⟩)
      · exact ⟨h0, 0, k, v, fl, t, els, rfl, h1, by omega, h2, h3⟩
      · exact ⟨h0, j + 1, k, v, fl, t, els, by simpa using h1, h2, by omega, h3, h4⟩
    · rintro ⟨h0, j, k, v', fl, t, els, h1, h2, rfl, h3, h4⟩
      cases j with
      | zero => simp at h1; subst h1; exact .inl ⟨h0, k, fl, t, els, h2, by omega, h3, h4⟩
      | succ j => exact .inr ⟨h0, j, k, v', fl, t, els, by simpa using h1, h2, by omega, h3, h4⟩
theorem cellR_tup {vs : List V} {j k : Nat} {x : V} (h : cellR (.tup vs) j k = some x) : ∃ v, vs[j]? = some v ∧ cell1 v k = some x := by
  unfold cellR at h
  cases hv : vs[j]? with
  | none => simp only [hv] at h; cases h
  | some v =>
    refine ⟨v, rfl, ?_⟩
    cases v <;> simp only [hv] at h <;> exact h
theorem cellR_tup' {vs : List V} {j k : Nat} {x v : V} (hv : vs[j]? = some v) (h : cell1 v k = some x) : cellR (.tup vs) j k = some x := by
  unfold cellR
  cases v <;> simp only [hv] <;> exact h
theorem cellR_1 {v : V} {j k : Nat} {x : V} (hn : ∀ vs, v ≠ .tup vs) : cellR v j k = some x ↔ j = 0 ∧ cell1 v k = some x := by
  by_cases hv : ∃ cs, v = .agg cs
  · obtain ⟨cs, rfl⟩ := hv
    show (if j = 0 then cs[k]? else none) = some x ↔ j = 0 ∧ cs[k]? = some x
    by_cases hj : j = 0 <;> simp [hj]
  · have hn' : ∀ cs, v ≠ .agg cs := fun cs e => hv ⟨cs, e⟩
    have h1 : cellR v j k = if j = 0 ∧ k = 0 then some v else none := by cases v <;> first | rfl | exact absurd rfl (hn _) | exact absurd rfl (hn' _)
    rw [h1, cell1_ne hn']
    by_cases hj : j = 0 <;> by_cases hk : k = 0 <;> simp [hj, hk]
theorem mem_upd2 {e i : Nat} {b : Ob} {r : V} {id : Nat} : (i, e, b) ∈ upd2 ro lk id r ↔ ro = false ∧ ∃ (j k : Nat) (fl : Bool) (t : TypeId) (els : List (List T)), cellR r j k = some (.fr fl t els) ∧ i = id + j * 64 + k ∧ e = nep (lk i) ∧ b = .row fl true t els := by
  by_cases hr : ∃ vs, r = .tup vs
  · obtain ⟨vs, rfl⟩ := hr
    unfold upd2
    rw [mem_upd1L]
    constructor
    · rintro ⟨h0, j, k, v, fl, t, els, h1, h2, h3⟩
      exact ⟨h0, j, k, fl, t, els, cellR_tup' h1 h2, h3⟩
    · rintro ⟨h0, j, k, fl, t, els, h1, h3⟩
      obtain ⟨v, h4, h5⟩ := cellR_tup h1
      exact ⟨h0, j, k, v, fl, t, els, h4, h5, h3⟩
  · have hn : ∀ vs, r ≠ .tup vs := fun vs e => hr ⟨vs, e⟩
    have hu : upd2 ro lk id r = upd1 ro lk id r := by cases r <;> first | rfl | exact absurd rfl (hn _)
    rw [hu, mem_upd1]
    constructor
    · rintro ⟨h0, k, fl, t, els, h1, h2⟩
      exact ⟨h0, 0, k, fl, t, els, (cellR_1 hn).2 ⟨rfl, h1⟩, by simpa using h2⟩
    · rintro ⟨h0, j, k, fl, t, els, h1, h2⟩
      obtain ⟨rfl, h3⟩ := (cellR_1 hn).1 h1
      exact ⟨h0, k, fl, t, els, h3, by simpa using h2⟩
theorem small_lt {r : V} (hs : small2 r = true) {j k : Nat} {x : V} (h : cellR r j k = some x) : k < 64 := by
  have h1 : ∀ {v : V}, small1 v = true → ∀ {k x}, cell1 v k = some x → k < 64 := fun {v} hv {k x} hx => by
    by_cases hv' : ∃ cs, v = .agg cs
    · obtain ⟨cs, rfl⟩ := hv'
      have h1 := (List.getElem?_eq_some_iff.1 hx).1
      have h2 : cs.length ≤ 64 := of_decide_eq_true hv
      omega
    · rw [cell1_ne (fun cs e => hv' ⟨cs, e⟩)] at hx
      split at hx
      · omega
      · cases hx
  by_cases hr : ∃ vs, r = .tup vs
  · obtain ⟨vs, rfl⟩ := hr
    obtain ⟨v, h2, h3⟩ := cellR_tup h
    exact h1 (List.all_eq_true.1 hs _ (List.mem_of_getElem? h2)) h3
  · have hn : ∀ vs, r ≠ .tup vs := fun vs e => hr ⟨vs, e⟩
    have hu : small2 r = small1 r := by cases r <;> first | rfl | exact absurd rfl (hn _)
    exact h1 (by rw [← hu]; exact hs) ((cellR_1 hn).1 h).2
end
theorem look_updl_not : ∀ (l objs : List (Nat × Nat × Ob)) (i : Nat), (∀ e b, (i, e, b) ∉ l) → look (updl objs l) i = look objs i
  | [], _, _, _ => rfl
  | (o, e, b) :: r, objs, i, h => by
    show look (updl (updo objs o e b) r) i = _
    rw [look_updl_not r _ i fun e' b' h' => h e' b' (by simp [h']), look_updo, if_neg]
    rintro rfl
    exact h e b (by simp)
theorem look_updl_mem : ∀ (l objs : List (Nat × Nat × Ob)) (i e : Nat) (b : Ob), (i, e, b) ∈ l → (∀ e' b', (i, e', b') ∈ l → e' = e ∧ b' = b) → look (updl objs l) i = some (e, b)
  | (o, e0, b0) :: r, objs, i, e, b, h, hu => by
    show look (updl (updo objs o e0 b0) r) i = _
    by_cases hr : ∃ e' b', (i, e', b') ∈ r
    · obtain ⟨e', b', h'⟩ := hr
      obtain ⟨rfl, rfl⟩ := hu e' b' (by simp [h'])
      exact look_updl_mem r _ i _ _ h' fun e'' b'' h'' => hu e'' b'' (by simp [h''])
    · rw [look_updl_not r _ i fun e' b' h' => hr ⟨e', b', h'⟩, look_updo]
      rcases List.mem_cons.1 h with h | h
      · cases h; simp
      · exact absurd ⟨e, b, h⟩ hr

/-- Several new objects at once. -/
theorem SimW.news {P : Program} {B : Nat → Prop} {W : En} {st : St} {a : Act} {w w' : World} {pl : Nat → Value} {F : Nat → Nat → Prop} (h : SimW P B W st a w pl F) {objs' : List (Nat × Nat × Ob)} {nv : Nat → Value} {nF : Nat → Nat → Prop} {Nw : Nat → Prop}
    (hw : Below w.heap.size w w') (hl : ∀ i, ¬ Nw i → look objs' i = look st.objs i) (hn : ∀ i, Nw i → ∃ ep ob, look objs' i = some (ep, ob) ∧ (∀ ep0 ob0, look st.objs i = some (ep0, ob0) → ep0 < ep) ∧ 0 < ep)
    (hF : ∀ i b, Nw i → nF i b → w.heap.size ≤ b ∧ b < w'.heap.size) (hd : ∀ i j b, Nw i → Nw j → i ≠ j → nF i b → ¬ nF j b)
    (hob : ∀ i ep ob, Nw i → look objs' i = some (ep, ob) → ∀ CC Rr, ObR P w' CC Rr (nv i) (nF i) ob) :
    ∃ pl' F', SimW P B W { st with objs := objs' } a w' pl' F' ∧ (∀ i, Nw i → pl' i = nv i) ∧ Goes P w w' (look st.objs) (look objs') pl pl' (Free B W.o (look st.objs) F w) (Free B W.o (look objs') F' w') ∧
      (∀ b, (Free B W.o (look st.objs) F w b ∨ w.heap.size ≤ b) → b < w'.heap.size → (∀ i, Nw i → ¬ nF i b) → Free B W.o (look objs') F' w' b) ∧ (∀ j, ¬ Nw j → F' j = F j) := by
  classical
  let pl' : Nat → Value := fun i => if Nw i then nv i else pl i
  let F' : Nat → Nat → Prop := fun i => if Nw i then nF i else F i
  have e1 : ∀ i, Nw i → F' i = nF i := fun i h => if_pos h
  have e2 : ∀ i, ¬ Nw i → F' i = F i := fun i h => if_neg h
  have hfr : ∀ b, (Free B W.o (look st.objs) F w b ∨ w.heap.size ≤ b) → b < w'.heap.size → (∀ i, Nw i → ¬ nF i b) → Free B W.o (look objs') F' w' b := fun b hb hlt hnb => by
    refine ⟨?_, hlt, fun i x hi hf => ?_⟩
    · rcases hb with hb | hb
      · exact hb.1
      · exact .inr (.inl (Nat.le_trans h.below.size hb))
    · by_cases hN : Nw i
      · rw [e1 i hN] at hf; exact hnb i hN hf
      · rw [e2 i hN] at hf
        rw [hl i hN] at hi
        rcases hb with hb | hb
        · exact hb.2.2 _ _ hi hf
        · have := (h.range _ _ _ hi hf).2; omega
  have g : Goes P w w' (look st.objs) (look objs') pl pl' (Free B W.o (look st.objs) F w) (Free B W.o (look objs') F' w') := by
    refine ⟨fun b hb => hfr b (.inl hb) (Nat.lt_of_lt_of_le hb.2.1 hw.size) fun i hi hf => ?_, fun b hb => hw.block b hb.2.1, fun o ep ob ho => ?_⟩
    · have := (hF i b hi hf).1
      have := hb.2.1
      omega
    · by_cases hN : Nw o
      · obtain ⟨ep', ob', h1, h2, _⟩ := hn o hN
        exact ⟨ep', ob', h1, .inl (h2 _ _ ho)⟩
      · exact ⟨ep, ob, (hl o hN).trans ho, .inr ⟨rfl, if_neg hN, rfl, rfl⟩⟩
  refine ⟨pl', F', ⟨h.old, h.size, h.defers, h.below.trans (Below.kp hw h.below.size), fun i hi => (h.tmps i hi).goes g, fun o ep ob ho => ?_, fun o x b ho hf => ?_, fun o o' x x' b hne ho ho' hf hf' => ?_, fun o ob0 h0 ep ob ho => ?_⟩, fun i hi => if_pos hi, g, hfr, e2⟩
  · by_cases hN : Nw o
    · rw [e1 o hN, show pl' o = nv o from if_pos hN]
      exact hob o ep ob hN ho _ _
    · have ho0 := ho
      rw [hl o hN] at ho0
      rw [e2 o hN, show pl' o = pl o from if_neg hN]
      exact (h.objs o ep ob ho0).goes (fun b hb => hw.block b (h.range o _ b ho0 hb).2) (fun _ _ hc => C0.goes g hc) (fun _ _ hr => hr.mono g.more g.heap)
  · by_cases hN : Nw o
    · rw [e1 o hN] at hf
      have := hF o b hN hf
      exact ⟨.inl (Nat.le_trans h.below.size this.1), this.2⟩
    · rw [e2 o hN] at hf
      rw [hl o hN] at ho
      have := h.range _ _ _ ho hf
      exact ⟨this.1, Nat.lt_of_lt_of_le this.2 hw.size⟩
  · by_cases hN : Nw o
    · rw [e1 o hN] at hf
      by_cases hN' : Nw o'
      · rw [e1 o' hN'] at hf'
        exact hd o o' b hN hN' hne hf hf'
      · rw [e2 o' hN'] at hf'
        rw [hl o' hN'] at ho'
        have := (h.range _ _ _ ho' hf').2
        have := (hF o b hN hf).1
        omega
    · rw [e2 o hN] at hf
      rw [hl o hN] at ho
      by_cases hN' : Nw o'
      · rw [e1 o' hN'] at hf'
        have := (h.range _ _ _ ho hf).2
        have := (hF o' b hN' hf').1
        omega
      · rw [e2 o' hN'] at hf'
        rw [hl o' hN'] at ho'
        exact h.apart _ _ _ _ b hne ho ho' hf hf'
  · by_cases hN : Nw o
    · obtain ⟨ep', ob', h1, _, h2⟩ := hn o hN
      rw [h1] at ho
      cases ho
      exact .inl h2
    · rw [hl o hN] at ho
      rcases h.hist o ob0 h0 ep ob ho with h5 | ⟨h5, h6⟩
      · exact .inl h5
      · exact .inr ⟨(if_neg hN).trans h5, h6⟩
/-! ### Calls -/
def cel1 : Value → Nat → Value
  | .agg cs, k => (cs.toList[k]?).getD undef
  | v, _ => v
def celU : Value → Nat → Nat → Value
  | .tuple us, j, k => cel1 ((us.toList[j]?).getD undef) k
  | v, _, k => cel1 v k
section
variable {P : Program} {w w' : World} {Fr : Nat → Prop}
theorem ow_slice {fl : Bool} {e : TypeId} {els : List (List T)} {u : Value} {F : Nat → Prop} (h : Ow P w (.lst fl e els) u F) : ∃ A n c, u = .slice A n c := by
  cases h with
  | flat hf => cases hf
  | lst us fs h1 => obtain ⟨A, c, h, _⟩ := ownsRow_slice h1; exact ⟨A, _, c, h⟩
theorem cellU1 {F : Nat → Nat → Prop} {v : V} {u : Value} (h : R1 P w Fr F v u) {k : Nat} {fl : Bool} {e : TypeId} {els : List (List T)} (hc : cell1 v k = some (.fr fl e els)) :
    Ow P w (.lst fl e els) (cel1 u k) (F k) := by
  by_cases hv : ∃ cs, v = .agg cs
  · obtain ⟨cs, rfl⟩ := hv
    obtain ⟨us, rfl, h1, h2⟩ := h
    have hc' : cs[k]? = some (.fr fl e els) := hc
    have hlt : k < us.length := by rw [h1]; exact (List.getElem?_eq_some_iff.1 hc').1
    have h3 := h2 k _ _ hc' (List.getElem?_eq_getElem hlt)
    have h4 : cel1 (.agg us.toArray) k = us[k] := by simp [cel1, List.getElem?_eq_getElem hlt]
    rw [h4]
    exact h3
  · rw [cell1_ne (fun cs e => hv ⟨cs, e⟩)] at hc
    split at hc
    · rename_i hk
      subst hk
      have e1 := Option.some.inj hc
      subst e1
      have h0 : Ow P w (.lst fl e els) u (F 0) := h
      obtain ⟨A, n, c, rfl⟩ := ow_slice h0
      exact h0
    · cases hc
theorem cellU {F : Nat → Nat → Nat → Prop} {r : V} {u : Value} (h : R2 P w Fr F r u) {j k : Nat} {fl : Bool} {e : TypeId} {els : List (List T)} (hc : cellR r j k = some (.fr fl e els)) : Ow P w (.lst fl e els) (celU u j k) (F j k) := by
  by_cases hr : ∃ vs, r = .tup vs
  · obtain ⟨vs, rfl⟩ := hr
    obtain ⟨v, h1, h2⟩ := cellR_tup hc
    obtain ⟨us, rfl, h3, h4⟩ := h
    have hlt : j < us.length := by rw [h3]; exact (List.getElem?_eq_some_iff.1 h1).1
    have h5 := cellU1 (h4 j v _ h1 (List.getElem?_eq_getElem hlt)) h2
    have h6 : celU (.tuple us.toArray) j k = cel1 us[j] k := by simp [celU, List.getElem?_eq_getElem hlt]
    rw [h6]
    exact h5
  · have hn : ∀ vs, r ≠ .tup vs := fun vs e => hr ⟨vs, e⟩
    obtain ⟨rfl, h2⟩ := (cellR_1 hn).1 hc
    have h1 : R1 P w Fr (F 0) r u := by cases r <;> first | exact h | exact absurd rfl (hn _)
    have h5 := cellU1 h1 h2
    obtain ⟨A, n, c, h6⟩ := ow_slice h5
    unfold celU
    cases u with
    | tuple us => cases h6
    | _ => exact h5
theorem imp0_ok {ro : Bool} {lk lk' : Nat → Option (Nat × Ob)} {pl' : Nat → Value} {NF Fj : Nat → Prop} {id : Nat} {v : V} {x : Value} (h : R0 P w Fr Fj v x) (h1 : ∀ y, v = .t y → Rd P w NF y x) (h2 : ∀ fl e els, v = .fr fl e els → ro = false → lk' id = some (nep (lk id), .row fl true e els) ∧ pl' id = x) (h3 : ∀ b, ro = true → Fj b → NF b) :
    C0 P w lk' pl' NF (imp0 ro lk id v) x := by
  cases v with
  | t y => exact h1 y rfl
  | fr fl e els =>
    have h' : Ow P w (.lst fl e els) x Fj := h
    cases ro with
    | true => exact h'.rd fun b hb => h3 b rfl hb
    | false =>
      obtain ⟨g1, g2⟩ := h2 _ _ _ rfl rfl
      exact ⟨h'.one, _, _, g1, Nat.le_refl _, fun _ => ⟨rfl, g2.symm⟩⟩
  | lit y => exact h
  | _ => exact h.elim
theorem impL_len {ro : Bool} {lk : Nat → Option (Nat × Ob)} : ∀ (id : Nat) (cs : List V), (impL ro lk id cs).length = cs.length
  | _, [] => rfl
  | id, _ :: r => by simp [impL, impL_len (id + 1) r]
theorem impL_at {ro : Bool} {lk : Nat → Option (Nat × Ob)} : ∀ (id : Nat) (cs : List V) (k : Nat), (impL ro lk id cs)[k]? = (cs[k]?).map (imp0 ro lk (id + k))
  | _, [], _ => by simp [impL]
  | id, v :: r, 0 => by simp [impL]
  | id, v :: r, k + 1 => by simp only [impL, List.getElem?_cons_succ, impL_at (id + 1) r k]; congr 2; omega
theorem imp1L_len {ro : Bool} {lk : Nat → Option (Nat × Ob)} : ∀ (id : Nat) (cs : List V), (imp1L ro lk id cs).length = cs.length
  | _, [] => rfl
  | id, _ :: r => by simp [imp1L, imp1L_len (id + 64) r]
theorem imp1L_at {ro : Bool} {lk : Nat → Option (Nat × Ob)} : ∀ (id : Nat) (cs : List V) (k : Nat), (imp1L ro lk id cs)[k]? = (cs[k]?).map (imp1 ro lk (id + k * 64))
  | _, [], _ => by simp [imp1L]
  | id, v :: r, 0 => by simp [imp1L]
  | id, v :: r, k + 1 => by simp only [imp1L, List.getElem?_cons_succ, imp1L_at (id + 64) r k]; congr 2; omega
theorem imp1_ok {ro : Bool} {lk lk' : Nat → Option (Nat × Ob)} {pl' : Nat → Value} {NF : Nat → Prop} {F : Nat → Nat → Prop} {id : Nat} {v : V} {u : Value} (h : R1 P w Fr F v u) (h1 : ∀ k y x, cell1 v k = some (.t y) → Rd P w Fr y x → Rd P w NF y x)
    (h2 : ∀ k fl e els, cell1 v k = some (.fr fl e els) → ro = false → lk' (id + k) = some (nep (lk (id + k)), .row fl true e els) ∧ pl' (id + k) = cel1 u k) (h3 : ∀ k b, ro = true → F k b → NF b) :
    C1 P w lk' pl' NF (imp1 ro lk id v) u := by
  by_cases hv : ∃ cs, v = .agg cs
  · obtain ⟨cs, rfl⟩ := hv
    obtain ⟨us, rfl, g1, g2⟩ := h
    refine ⟨us, rfl, by rw [impL_len, g1], fun k z x hz hx => ?_⟩
    rw [impL_at, Option.map_eq_some_iff] at hz
    obtain ⟨y, hy, rfl⟩ := hz
    refine imp0_ok (g2 k y x hy hx) (fun t e => ?_) (fun fl e els e1 e2 => ?_) (h3 k)
    · subst e
      exact h1 k t x hy (g2 k _ x hy hx)
    · subst e1
      have := h2 k fl e els hy e2
      exact ⟨this.1, by rw [this.2]; simp [cel1, hx]⟩
  · have hn : ∀ cs, v ≠ .agg cs := fun cs e => hv ⟨cs, e⟩
    have e0 : imp1 ro lk id v = imp0 ro lk id v := by cases v <;> first | rfl | exact absurd rfl (hn _)
    have h0 : R0 P w Fr (F 0) v u := by cases v <;> first | exact h | exact absurd rfl (hn _)
    rw [e0]
    have hc : cell1 v 0 = some v := by rw [cell1_ne hn, if_pos rfl]
    refine (imp0_ok h0 (fun t e => ?_) (fun fl e els e1 e2 => ?_) (h3 0)).c1
    · subst e
      exact h1 0 t u hc h0
    · subst e1
      have h4 := h2 0 fl e els hc e2
      refine ⟨h4.1, h4.2.trans ?_⟩
      obtain ⟨A, n, c, rfl⟩ := ow_slice (show Ow P w (.lst fl e els) u (F 0) from h0)
      rfl
theorem imp2_ok {ro : Bool} {lk lk' : Nat → Option (Nat × Ob)} {pl' : Nat → Value} {NF : Nat → Prop} {F : Nat → Nat → Nat → Prop} {id : Nat} {r : V} {u : Value} (h : R2 P w Fr F r u) (h1 : ∀ j k y x, cellR r j k = some (.t y) → Rd P w Fr y x → Rd P w NF y x)
    (h2 : ∀ j k fl e els, cellR r j k = some (.fr fl e els) → ro = false → lk' (id + j * 64 + k) = some (nep (lk (id + j * 64 + k)), .row fl true e els) ∧ pl' (id + j * 64 + k) = celU u j k) (h3 : ∀ j k b, ro = true → F j k b → NF b) :
    C2 P w lk' pl' NF (imp2 ro lk id r) u := by
  by_cases hr : ∃ vs, r = .tup vs
  · obtain ⟨vs, rfl⟩ := hr
    obtain ⟨us, rfl, g1, g2⟩ := h
    refine ⟨us, rfl, by rw [imp1L_len, g1], fun j z x hz hx => ?_⟩
    rw [imp1L_at, Option.map_eq_some_iff] at hz
    obtain ⟨y, hy, rfl⟩ := hz
    refine imp1_ok (g2 j y x hy hx) (fun k t v hc hrd => h1 j k t v (cellR_tup' hy hc) hrd) (fun k fl e els hc e2 => ?_) (fun k b => h3 j k b)
    have := h2 j k fl e els (cellR_tup' hy hc) e2
    refine ⟨this.1, this.2.trans ?_⟩
    simp [celU, hx]
  · have hn : ∀ vs, r ≠ .tup vs := fun vs e => hr ⟨vs, e⟩
    have e0 : imp2 ro lk id r = imp1 ro lk id r := by cases r <;> first | rfl | exact absurd rfl (hn _)
    have h0 : R1 P w Fr (F 0) r u := by cases r <;> first | exact h | exact absurd rfl (hn _)
    rw [e0]
    refine (imp1_ok h0 (fun k t v hc hrd => h1 0 k t v ((cellR_1 hn).2 ⟨rfl, hc⟩) hrd) (fun k fl e els hc e2 => ?_) (fun k b => h3 0 k b)).c2
    have h4 := h2 0 k fl e els ((cellR_1 hn).2 ⟨rfl, hc⟩) e2
    simp only [Nat.zero_mul, Nat.add_zero] at h4
    refine ⟨h4.1, h4.2.trans ?_⟩
    have h5 := cellU1 h0 hc
    obtain ⟨A, n, c, h6⟩ := ow_slice h5
    unfold celU
    cases u with
    | tuple us => cases h6
    | _ => rfl
end
theorem pure_flat {r : V} (hp : pureR r = true) {j k : Nat} {y : T} (h : cellR r j k = some (.t y)) : y.flat = true := by
  have key : ∀ v : V, (match v with | .agg cs => cs.all flatR | v => flatR v) = true → ∀ k, cell1 v k = some (.t y) → y.flat = true := fun v hv k hc => by
    by_cases hv' : ∃ cs, v = .agg cs
    · obtain ⟨cs, rfl⟩ := hv'
      exact List.all_eq_true.1 hv _ (List.mem_of_getElem? hc)
    · have hn : ∀ cs, v ≠ .agg cs := fun cs e => hv' ⟨cs, e⟩
      rw [cell1_ne hn] at hc
      split at hc
      · have e1 := Option.some.inj hc
        subst e1
        exact hv
      · cases hc
  by_cases hr : ∃ vs, r = .tup vs
  · obtain ⟨vs, rfl⟩ := hr
    obtain ⟨v, h1, h2⟩ := cellR_tup h
    exact key v (List.all_eq_true.1 hp v (List.mem_of_getElem? h1)) k h2
  · have hn : ∀ vs, r ≠ .tup vs := fun vs e => hr ⟨vs, e⟩
    refine key r ?_ k ((cellR_1 hn).1 h).2
    cases r <;> first | exact hp | exact absurd rfl (hn _)

theorem OpS.call_any {P : Program} {B : Nat → Prop} {W : En} {o : Oper} {st : St} {KE : V → List (Nat × Nat × Ob) → Prop} {c : Call} {f : Operand} {g : FuncId} {as : List V} {r : V} {ro : Bool} {site : Nat} (ho : o.op = .call c) (hc : c.callee = .value f) (hf : f = .func g) (hA : AC P g as r)
    (hs : SeeA (look st.objs) (c.args.toList.map st.ev) as) (hp : pureR r = true ∨ (c.args.toList.map st.ev).all plain1 = true) (hsm' : ro = true ∨ small2 r = true) (hK : KE (imp2 ro (look st.objs) site r) (upd2 ro (look st.objs) site r)) : OpS P B W o st KE := by
  have hsm : ro = false → small2 r = true := fun h => hsm'.resolve_left (by rw [h]; decide)
  intro a w pl F hS next Q hn
  subst hf
  obtain ⟨⟨fn, h1, h2, h3⟩, hcall⟩ := hA
  have hrun : (execOp a.eval o).run P w = .ok (.enter g (c.args.toList.map a.eval).toArray) w := by
    unfold execOp
    rw [ho]
    have he : a.eval (.func g) = .func (.func g) #[] #[] := rfl
    have hb : fn.body ≠ none := fun e => by rw [e] at h2; cases h2
    have hnm : fn.name ≠ "runtime.NumGoroutine" := by simpa using h3
    have hm : Array.map a.eval c.args = (List.map a.eval c.args.toList).toArray := by rw [← Array.toList_map, Array.toArray_toList]
    simp [resolve, hc, he, Deferred.ofValue, invoke, callFunc, h1, hb, hnm, hm]
  classical
  let Bx : Nat → Prop := if pureR r = true then (fun b => Free B W.o (look st.objs) F w b ∨ ∃ o y, look st.objs o = some y ∧ F o b) else Free B W.o (look st.objs) F w
  have hB1 : ∀ b, Free B W.o (look st.objs) F w b → Bx b := fun b hb => by
    show (if pureR r = true then _ else _ : Nat → Prop) b
    split
    · exact .inl hb
    · exact hb
  have hB2 : ∀ b, Bx b → b < w.heap.size := fun b hb => by
    have hb' : (if pureR r = true then (fun b => Free B W.o (look st.objs) F w b ∨ ∃ o y, look st.objs o = some y ∧ F o b) else Free B W.o (look st.objs) F w : Nat → Prop) b := hb
    split at hb'
    · rcases hb' with hb' | ⟨o, y, h5, h6⟩
      · exact hb'.2.1
      · exact (hS.range o y b h5 h6).2
    · exact hb'.2.1
  have hB3 : ∀ o, o ∈ (c.args.toList.map st.ev).flatMap rids1 → ∀ y b, look st.objs o = some y → F o b → Bx b := fun o ho y b h5 h6 => by
    rcases hp with hp | hp
    · show (if pureR r = true then _ else _ : Nat → Prop) b
      rw [if_pos hp]
      exact .inr ⟨o, y, h5, h6⟩
    · obtain ⟨v, h7, h8⟩ := List.mem_flatMap.1 ho
      have h9 := List.all_eq_true.1 hp v h7
      rw [plain_rids1 h9] at h8
      cases h8
  have hargs := hS.seeA hB1 c.args.toList as hB3 hs
  unfold Oper.wp
  rw [hrun, Oper.upon_enter]
  refine (hcall w Bx _ hB2 hargs).mono ?_
  rintro e w' ⟨u, rfl, hbel, FF, hR, hrg, hdj⟩
  show next (a.put o.dst u) w'
  let Nw : Nat → Prop := fun i => ∃ e b, (i, e, b) ∈ upd2 ro (look st.objs) site r
  have hmem : ∀ i e b, (i, e, b) ∈ upd2 ro (look st.objs) site r ↔ _ := fun i e b => mem_upd2
  have hdec : ∀ j k, k < 64 → (site + j * 64 + k - site) / 64 = j ∧ (site + j * 64 + k - site) % 64 = k := fun j k hk => by omega
  have hlook : ∀ i e b, (i, e, b) ∈ upd2 ro (look st.objs) site r → look (updl st.objs (upd2 ro (look st.objs) site r)) i = some (e, b) := fun i e b hi => by
    refine look_updl_mem _ _ _ _ _ hi fun e' b' hi' => ?_
    obtain ⟨hro, j, k, fl, t, els, g1, rfl, g2, g3⟩ := (hmem _ _ _).1 hi
    obtain ⟨_, j', k', fl', t', els', g1', g0, g2', g3'⟩ := (hmem _ _ _).1 hi'
    have := small_lt (hsm hro) g1
    have := small_lt (hsm hro) g1'
    have hj : j = j' := by omega
    have hk : k = k' := by omega
    subst hj hk
    rw [g1] at g1'
    cases g1'
    exact ⟨g2'.trans g2.symm, g3'.trans g3.symm⟩
  obtain ⟨pl', F', hS', hpl, hgo, hfree, hsame⟩ := hS.news (w' := w') (objs' := updl st.objs (upd2 ro (look st.objs) site r)) (Nw := Nw) (nv := fun i => celU u ((i - site) / 64) ((i - site) % 64)) (nF := fun i => FF ((i - site) / 64) ((i - site) % 64)) hbel
    (fun i hi => look_updl_not _ _ _ fun e b he => hi ⟨e, b, he⟩)
    (fun i ⟨e, b, he⟩ => by
      obtain ⟨_, j, k, fl, t, els, g1, rfl, g2, g3⟩ := (hmem _ _ _).1 he
      exact ⟨e, b, hlook _ e b he, fun ep0 ob0 h0 => by rw [g2]; exact nep_lt h0, by rw [g2]; exact nep_pos _⟩)
    (fun i b _ hb => hrg _ _ b hb)
    (fun i i' b ⟨e, ob, he⟩ ⟨e', ob', he'⟩ hne hb => by
      obtain ⟨hro, j, k, fl, t, els, g1, rfl, g2, g3⟩ := (hmem _ _ _).1 he
      obtain ⟨_, j', k', fl', t', els', g1', rfl, g2', g3'⟩ := (hmem _ _ _).1 he'
      have hk := small_lt (hsm hro) g1
      have hk' := small_lt (hsm hro) g1'
      refine hdj _ _ _ _ b ?_ hb
      rw [(hdec j k hk).1, (hdec j k hk).2, (hdec j' k' hk').1, (hdec j' k' hk').2]
      omega)
    (fun i ep ob ⟨e, b, he⟩ hi CC Rr => by
      rw [hlook i e b he] at hi
      cases hi
      obtain ⟨hro, j, k, fl, t, els, g1, rfl, g2, rfl⟩ := (hmem _ _ _).1 he
      have hk := small_lt (hsm hro) g1
      have h5 := cellU hR g1
      refine .inl ⟨rfl, ?_⟩
      show Ow _ _ _ (celU u ((site + j * 64 + k - site) / 64) ((site + j * 64 + k - site) % 64)) (FF ((site + j * 64 + k - site) / 64) ((site + j * 64 + k - site) % 64))
      rw [(hdec j k hk).1, (hdec j k hk).2]
      exact h5)
  have hv : C2 P w' (look (updl st.objs (upd2 ro (look st.objs) site r))) pl' (Free B W.o (look (updl st.objs (upd2 ro (look st.objs) site r))) F' w') (imp2 ro (look st.objs) site r) u := by
    refine imp2_ok hR (fun j k y x hcell hrd => ?_) (fun j k fl e els hcell hro => ?_) (fun j k b hro hb => ?_)
    · rcases hp with hp | hp
      · exact hrd.flat (pure_flat hp hcell)
      · by_cases hpr : pureR r = true
        · exact hrd.flat (pure_flat hpr hcell)
        · refine hrd.mono (fun b hb => ?_) fun _ _ => rfl
          have hbx : Bx = Free B W.o (look st.objs) F w := if_neg hpr
          rw [hbx] at hb
          exact hfree b hb.1 hb.2.1 fun i _ => hb.2.2 _ _
    · have hm : (site + j * 64 + k, nep (look st.objs (site + j * 64 + k)), Ob.row fl true e els) ∈ upd2 ro (look st.objs) site r := (hmem _ _ _).2 ⟨hro, j, k, fl, e, els, hcell, rfl, rfl, rfl⟩
      have hk := small_lt (hsm hro) hcell
      refine ⟨hlook _ _ _ hm, (hpl _ ⟨_, _, hm⟩).trans ?_⟩
      show celU u ((site + j * 64 + k - site) / 64) ((site + j * 64 + k - site) % 64) = _
      rw [(hdec j k hk).1, (hdec j k hk).2]
    · have := hrg j k b hb
      refine hfree b (.inr this.1) this.2 fun i ⟨e, ob, he⟩ => ?_
      obtain ⟨h0, _⟩ := (hmem _ _ _).1 he
      rw [hro] at h0
      cases h0
  have h4 := hS'.put hv o.dst
  rw [← upds_eq] at h4
  refine hn _ _ _ _ _ _ h4 ?_ hK
  rw [put_objs]
  exact ⟨hgo.more, hgo.heap, fun i x b hi hno hf => ⟨by rw [hsame i fun ⟨e, ob, h⟩ => hno e ob h]; exact hf, hbel.block b (hS.range i x b hi hf).2⟩⟩
def noFr0 : V → Bool
  | .fr .. => false
  | _ => true
def noFr : V → Bool
  | .tup vs => vs.all fun v => match v with | .agg cs => cs.all noFr0 | v => noFr0 v
  | .agg cs => cs.all noFr0
  | v => noFr0 v
theorem imp0_noFr {ro : Bool} {lk : Nat → Option (Nat × Ob)} {id : Nat} {v : V} (h : noFr0 v = true) : imp0 ro lk id v = v ∧ upd0 ro lk id v = [] := by cases v <;> first | exact ⟨rfl, rfl⟩ | cases h
theorem impL_noFr {ro : Bool} {lk : Nat → Option (Nat × Ob)} : ∀ {cs : List V} {id : Nat}, cs.all noFr0 = true → impL ro lk id cs = cs ∧ updL ro lk id cs = []
  | [], _, _ => ⟨rfl, rfl⟩
  | v :: r, id, h => by
    rw [List.all_cons, Bool.and_eq_true] at h
    obtain ⟨h1, h2⟩ := imp0_noFr (ro := ro) (lk := lk) (id := id) h.1
    obtain ⟨h3, h4⟩ := impL_noFr (ro := ro) (lk := lk) (id := id + 1) h.2
    exact ⟨by rw [impL, h1, h3], by rw [updL, h2, h4]; rfl⟩
def noFr1 : V → Bool
  | .agg cs => cs.all noFr0
  | v => noFr0 v
theorem imp1_noFr {ro : Bool} {lk : Nat → Option (Nat × Ob)} {id : Nat} {v : V} (h : noFr1 v = true) : imp1 ro lk id v = v ∧ upd1 ro lk id v = [] := by
  cases v with
  | agg cs =>
    obtain ⟨h1, h2⟩ := impL_noFr (ro := ro) (lk := lk) (id := id) (cs := cs) h
    exact ⟨congrArg V.agg h1, h2⟩
  | _ =>
    unfold noFr1 at h
    have h' := imp0_noFr (ro := ro) (lk := lk) (id := id) h
    exact h'
theorem imp1L_noFr {ro : Bool} {lk : Nat → Option (Nat × Ob)} : ∀ {cs : List V} {id : Nat}, cs.all noFr1 = true → imp1L ro lk id cs = cs ∧ upd1L ro lk id cs = []
  | [], _, _ => ⟨rfl, rfl⟩
  | v :: r, id, h => by
    rw [List.all_cons, Bool.and_eq_true] at h
    obtain ⟨h1, h2⟩ := imp1_noFr (ro := ro) (lk := lk) (id := id) h.1
    obtain ⟨h3, h4⟩ := imp1L_noFr (ro := ro) (lk := lk) (id := id + 64) h.2
    exact ⟨by rw [imp1L, h1, h3], by rw [upd1L, h2, h4]; rfl⟩
def noFr2 : V → Bool
  | .tup vs => vs.all noFr1
  | v => noFr1 v
theorem imp2_noFr {ro : Bool} {lk : Nat → Option (Nat × Ob)} {id : Nat} {v : V} (h : noFr2 v = true) : imp2 ro lk id v = v ∧ upd2 ro lk id v = [] := by
  cases v with
  | tup cs =>
    obtain ⟨h1, h2⟩ := imp1L_noFr (ro := ro) (lk := lk) (id := id) (cs := cs) h
    exact ⟨congrArg V.tup h1, h2⟩
  | _ =>
    unfold noFr2 at h
    have h' := imp1_noFr (ro := ro) (lk := lk) (id := id) h
    exact h'
section
variable {P : Program} {B : Nat → Prop} {W : En} {o : Oper} {st : St} {KE : V → List (Nat × Nat × Ob) → Prop}
/-- A call that gives nothing in new memory. -/
theorem OpS.call_flat {c : Call} {g : FuncId} {as : List V} {r : V} (ho : o.op = .call c) (hc : c.callee = .value (.func g)) (hA : AC P g as r)
    (hs : SeeA (look st.objs) (c.args.toList.map st.ev) as) (hn : noFr2 r = true) (hp : pureR r = true ∨ (c.args.toList.map st.ev).all plain1 = true) (hK : KE r []) : OpS P B W o st KE := by
  have hsm : small2 r = true ∨ True := .inr trivial
  obtain ⟨h1, h2⟩ := imp2_noFr (ro := true) (lk := look st.objs) (id := 0) hn
  refine OpS.call_any (ro := true) (site := 0) ho hc rfl hA hs hp (.inl rfl) ?_
  rw [h1, h2]
  exact hK
/-- A call whose fresh results become objects (site: 1000 and the slot). -/
theorem OpS.call_new {c : Call} {g : FuncId} {as : List V} {r v : V} {d : Nat} {us : List (Nat × Nat × Ob)} (ho : o.op = .call c) (hd : o.dst = some d) (hc : c.callee = .value (.func g)) (hA : AC P g as r)
    (hs : SeeA (look st.objs) (c.args.toList.map st.ev) as) (hp : pureR r = true ∨ (c.args.toList.map st.ev).all plain1 = true) (hsm : small2 r = true) (hv : imp2 false (look st.objs) (1000 * d) r = v) (hu : upd2 false (look st.objs) (1000 * d) r = us) (hK : KE v us) : OpS P B W o st KE := by
  subst hv hu
  exact OpS.call_any ho hc rfl hA hs hp (.inr hsm) hK
end
end Go.Proofs.Ytmkpgcahmbancaa.Ab
