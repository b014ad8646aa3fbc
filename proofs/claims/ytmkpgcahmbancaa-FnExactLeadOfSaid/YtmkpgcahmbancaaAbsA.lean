/- What is proved: the calculus of abstract states: regions that draw their order.
   Conditions: none beyond those that each lemma names. -/
import Derived.Test.YtmkpgcahmbancaaAbs9
import Derived.Orders
import Derived.OrdersHeld
import Derived.KernelRfl
namespace Go.Proofs.Ytmkpgcahmbancaa.Ab
set_option linter.unusedSimpArgs false
set_option linter.unusedVariables false
open Go.RowKit

/-! ### Operations that look at no memory -/
/-- The blocks that are read alike as long as the objects os do not change. -/
def Rds (B : Nat → Prop) (W : En) (os : List Nat) (st : St) (w : World) (F : Nat → Nat → Prop) (b : Nat) : Prop := Free B W.o (look st.objs) F w b ∨ ∃ i, i ∈ os ∧ ∃ x, look st.objs i = some x ∧ F i b
def OpP (P : Program) (B : Nat → Prop) (W : En) (o : Oper) (os : List Nat) (st : St) (v : V) : Prop :=
  ∀ a w pl F, SimW P B W st a w pl F → ∃ u, (∀ w', (∀ b, Rds B W os st w F b → w'.heap[b]? = w.heap[b]?) → (execOp a.eval o).run P w' = .ok (.value u) w') ∧ C2 P w (look st.objs) pl (Free B W.o (look st.objs) F w) v u
def OpQ (P : Program) (B : Nat → Prop) (W : En) (o : Oper) (os : List Nat) (st : St) (KE : V → List (Nat × Nat × Ob) → Prop) : Prop := ∃ v, KE v [] ∧ OpP P B W o os st v
section
variable {P : Program} {B : Nat → Prop} {W : En} {o : Oper} {os : List Nat} {st : St} {KE : V → List (Nat × Nat × Ob) → Prop}
theorem OpQ.k {n : Nat} (_ : kindOf o.op = n) (h : OpQ P B W o os st KE) : OpQ P B W o os st KE := h
theorem OpQ.pure_ {v : V} (hK : KE v []) (h : ∀ a w pl F, SimW P B W st a w pl F → ∃ u, (∀ w', (execOp a.eval o).run P w' = .ok (.value u) w') ∧ C2 P w (look st.objs) pl (Free B W.o (look st.objs) F w) v u) : OpQ P B W o os st KE := ⟨v, hK, fun a w pl F hs => by
  obtain ⟨u, h1, h2⟩ := h a w pl F hs
  exact ⟨u, fun w' _ => h1 w', h2⟩⟩
theorem OpQ.move {x : Operand} (ho : o.op = .move x ∨ o.op = .assign x) (hK : KE (st.ev x) []) : OpQ P B W o os st KE :=
  OpQ.pure_ hK fun a w pl F hs => ⟨a.eval x, fun _ => by rcases ho with ho | ho <;> (unfold execOp; rw [ho]; rfl), hs.ev x⟩
theorem OpQ.mv {x : Operand} {v : V} (ho : o.op = .move x ∨ o.op = .assign x) (hx : st.ev x = v) (hK : KE v []) : OpQ P B W o os st KE := OpQ.move ho (by rw [hx]; exact hK)
theorem OpQ.pick {c x y : Operand} {t : Bool} (ho : o.op = .pick c x y) (hc : st.ev c = .t (.bool t)) (hK : KE (if t then st.ev x else st.ev y) []) : OpQ P B W o os st KE :=
  OpQ.pure_ hK fun a w pl F hs => by
    have h := hs.ev c
    rw [hc] at h
    cases h' : a.eval c <;> rw [h'] at h <;> cases h
    refine ⟨if t then a.eval x else a.eval y, fun _ => by unfold execOp; rw [ho]; simp [h', asBool], ?_⟩
    cases t
    · exact hs.ev y
    · exact hs.ev x
theorem OpQ.pick_t {c x y : Operand} {t : Bool} {v : V} (ho : o.op = .pick c x y) (hc : st.ev c = .t (.bool t)) (ht : t = true) (hx : st.ev x = v) (hK : KE v []) : OpQ P B W o os st KE := OpQ.pick ho hc (by rw [if_pos ht, hx]; exact hK)
theorem OpQ.pick_f {c x y : Operand} {t : Bool} {v : V} (ho : o.op = .pick c x y) (hc : st.ev c = .t (.bool t)) (ht : t = false) (hx : st.ev y = v) (hK : KE v []) : OpQ P B W o os st KE := OpQ.pick ho hc (by rw [if_neg (by simp [ht]), hx]; exact hK)
theorem OpQ.field_ptr {s : TypeId} {x : Operand} {f fo n i ep k off : Nat} {y : Ty} (ho : o.op = .fieldAddr s x f) (hx : st.ev x = .ptr i ep k off) (hy : tinfo P s = some y) (hf : fldOf y f = some (fo, n))
    {e : Nat} {ob : Ob} (hl : look st.objs i = some (e, ob)) (he : e = ep) (hK : KE (.ptr i ep k (off + fo)) []) : OpQ P B W o os st KE :=
  OpQ.pure_ hK fun a w pl F hs => by
    have h1 := hs.ev x
    rw [hx] at h1
    obtain ⟨_, ep', ob', h2, h3, h4⟩ : C0 P w (look st.objs) pl (Free B W.o (look st.objs) F w) (.ptr i ep k off) (a.eval x) := h1
    rw [hl] at h2
    cases h2
    obtain ⟨g, bb, hg, hu⟩ := h4 he.symm
    refine ⟨_, fun _ => exec_fieldAddr ho hy hf hu, rfl, _, _, hl, by omega, fun _ => ⟨g, bb, hg, ?_⟩⟩
    rw [add_lit0]
    simp [Nat.add_assoc]
theorem OpQ.field_rptr {s : TypeId} {x : Operand} {f fo n off : Nat} {cs : List T} {y : Ty} (ho : o.op = .fieldAddr s x f) (hx : st.ev x = .rptr cs off) (hy : tinfo P s = some y) (hf : fldOf y f = some (fo, n)) (hK : KE (.rptr cs (off + fo)) []) : OpQ P B W o os st KE :=
  OpQ.pure_ hK fun a w pl F hs => by
    have h1 := hs.ev x
    rw [hx] at h1
    obtain ⟨ad, h2, h3⟩ : C0 P w (look st.objs) pl (Free B W.o (look st.objs) F w) (.rptr cs off) (a.eval x) := h1
    refine ⟨_, fun _ => exec_fieldAddr ho hy hf h2, _, rfl, fun j z hz => ?_⟩
    obtain ⟨h4, u, h5, h6⟩ := h3 (fo + j) z (by rw [← Nat.add_assoc]; exact hz)
    exact ⟨by rw [block_of_add]; exact h4, u, by rw [add_of_add]; exact h5, h6⟩
theorem OpQ.index_lst {t : TypeId} {x ix : Operand} {fl : Bool} {els : List (List T)} {n : Int} {k : IntKind} {e es eb e' : Nat} {y : Ty} (ho : o.op = .indexAddr t x ix) (hx : st.ev x = .t (.lst fl e' els)) (hi : st.ev ix = .t (.int k n)) (hy : tinfo P t = some y) (hk : y.k = .slice e es eb) (hes : es ≠ 0) (he : e' = e)
    (hn : 0 ≤ n ∧ n < els.length) (hK : KE (.rptr (els.getD n.toNat []) 0) []) : OpQ P B W o os st KE :=
  OpQ.pure_ hK fun a w pl F hs => by
    subst he
    obtain ⟨A, c, us, h1, h2, h3, h4, h5, h6, h7, h8⟩ := hs.lst_at hx
    have hes' : P.cellsOf e' = es := (slice_t hy hk).2.1
    have hnn : n.toNat < els.length := by omega
    have hne : us ≠ [] := fun e => by
      have := flatten_len h4
      rw [h6, e, hes', List.length_nil] at this
      have := Nat.mul_pos (show 0 < els.length by omega) (Nat.pos_of_ne_zero hes)
      omega
    obtain ⟨ad, rfl, hb, hc⟩ := h7 hne
    refine ⟨_, fun _ => exec_indexAddr ho hy hk hes h1 (hs.int_at hi).1 hn, _, rfl, fun j z hz => ?_⟩
    have hjl : j < es := by
      have h9 := (List.getElem?_eq_some_iff.1 hz).1
      rw [Nat.zero_add, h4 _ (getD_mem hnn), hes'] at h9
      exact h9
    have hx' := (flatten_at (s := es) (fun x hx => (h4 x hx).trans hes') hnn hjl).trans (by simpa using hz)
    have hlt : n.toNat * es + j < us.length := by rw [← h6]; exact (List.getElem?_eq_some_iff.1 hx').1
    exact ⟨by rw [block_of_add]; exact hb, _, by rw [add_of_add]; exact hc _ _ (List.getElem?_eq_getElem hlt), h8 _ _ _ hx' (List.getElem?_eq_getElem hlt)⟩
theorem OpQ.index_hnd {t : TypeId} {x ix : Operand} {i ep : Nat} {fl d : Bool} {els : List (List T)} {n : Int} {k : IntKind} {e es eb e' : Nat} {y : Ty} (ho : o.op = .indexAddr t x ix) (hx : st.ev x = .hnd i ep) (hl : look st.objs i = some (ep, .row fl d e' els)) (hi : st.ev ix = .t (.int k n)) (hy : tinfo P t = some y) (hk : y.k = .slice e es eb) (hes : es ≠ 0) (he : e' = e)
    (hn : 0 ≤ n ∧ n < els.length) (hK : KE (.ptr i ep n.toNat 0) []) : OpQ P B W o os st KE :=
  OpQ.pure_ hK fun a w pl F hs => by
    subst he
    obtain ⟨h1, us, hp⟩ := hs.hnd_at hx hl
    have hes' : P.cellsOf e' = es := (slice_t hy hk).2.1
    have hnn : n.toNat < els.length := by omega
    have h0 : 0 < (els.getD n.toNat []).length := by rw [hp.uni _ (getD_mem hnn)]; omega
    obtain ⟨g, bb, c, u, h2, h3, _⟩ := hp.cell (j := 0) hnn (List.getElem?_eq_getElem h0)
    refine ⟨_, fun _ => exec_indexAddr ho hy hk hes (h1.trans h2) (hs.int_at hi).1 hn, rfl, _, _, hl, Nat.le_refl _, fun _ => ⟨g, bb, by rw [h2]; rfl, ?_⟩⟩
    rw [add_lit0]
    simp [esz, hes']
theorem OpQ.index_at {t : TypeId} {x ix : Operand} {fl : Bool} {els : List (List T)} {n : Int} {k : IntKind} {e es eb e' m : Nat} {y : Ty} {cs : List T} (ho : o.op = .indexAddr t x ix) (hx : st.ev x = .t (.lst fl e' els)) (hi : st.ev ix = .t (.int k n)) (hy : tinfo P t = some y) (hk : y.k = .slice e es eb) (hes : es ≠ 0) (he : e' = e)
    (hm : n = (m : Int)) (hc : els[m]? = some cs) (hK : KE (.rptr cs 0) []) : OpQ P B W o os st KE := by
  have hlt : m < els.length := (List.getElem?_eq_some_iff.1 hc).1
  refine OpQ.index_lst ho hx hi hy hk hes he (by omega) ?_
  have : els.getD n.toNat [] = cs := by rw [hm, Int.toNat_natCast, List.getD_eq_getElem?_getD, hc]; rfl
  rw [this]
  exact hK
theorem OpQ.index_row {t : TypeId} {x ix : Operand} {i ep : Nat} {fl d : Bool} {els : List (List T)} {n : Int} {k : IntKind} {e es eb e' m : Nat} {y : Ty} (ho : o.op = .indexAddr t x ix) (hx : st.ev x = .hnd i ep) (hl : look st.objs i = some (ep, .row fl d e' els)) (hi : st.ev ix = .t (.int k n)) (hy : tinfo P t = some y) (hk : y.k = .slice e es eb) (hes : es ≠ 0) (he : e' = e)
    (hm : n = (m : Int)) (hlt : m < els.length) (hK : KE (.ptr i ep m 0) []) : OpQ P B W o os st KE := by
  refine OpQ.index_hnd ho hx hl hi hy hk hes he (by omega) ?_
  rw [hm, Int.toNat_natCast]
  exact hK
theorem OpQ.len_lst {x : Operand} {t : TypeId} {c : Call} {fl : Bool} {e' : Nat} {els : List (List T)} {e es eb : Nat} {y : Ty} (ho : o.op = .call c) (h1 : c.callee = .builtin .len) (h2 : c.args = #[x]) (h3 : c.argTypes = #[t]) (hy : tinfo P t = some y) (hk : y.k = .slice e es eb) (hx : st.ev x = .t (.lst fl e' els)) {m : Nat} (hm : els.length = m) (hK : KE (.t (.int .i64 m)) []) : OpQ P B W o os st KE :=
  OpQ.pure_ hK fun a w pl F hs => by
    subst hm
    obtain ⟨A, c, us, g1, g2, g3, _⟩ := hs.lst_at hx
    exact ⟨_, fun _ => exec_len ho h1 h2 h3 hy hk g1, Rd.int (wf_len (Nat.le_trans g2 g3))⟩
theorem OpQ.len_nil {x : Operand} {t : TypeId} {c : Call} {e es eb : Nat} {y : Ty} (ho : o.op = .call c) (h1 : c.callee = .builtin .len) (h2 : c.args = #[x]) (h3 : c.argTypes = #[t]) (hy : tinfo P t = some y) (hk : y.k = .slice e es eb) (hx : st.ev x = .t .nil) (hK : KE (.t (.int .i64 0)) []) : OpQ P B W o os st KE :=
  OpQ.pure_ hK fun a w pl F hs => ⟨_, fun _ => exec_len ho h1 h2 h3 hy hk (hs.nil_at hx), Rd.int (wf_len (by simp [maxLen]))⟩
theorem OpQ.len_hnd {x : Operand} {t : TypeId} {c : Call} {i ep : Nat} {fl d : Bool} {e' : Nat} {els : List (List T)} {e es eb : Nat} {y : Ty} (ho : o.op = .call c) (h1 : c.callee = .builtin .len) (h2 : c.args = #[x]) (h3 : c.argTypes = #[t]) (hy : tinfo P t = some y) (hk : y.k = .slice e es eb) (hx : st.ev x = .hnd i ep) (hl : look st.objs i = some (ep, .row fl d e' els)) {m : Nat} (hm : els.length = m) (hK : KE (.t (.int .i64 m)) []) : OpQ P B W o os st KE :=
  OpQ.pure_ hK fun a w pl F hs => by
    subst hm
    obtain ⟨g1, us, hp⟩ := hs.hnd_at hx hl
    obtain ⟨A, c, g2, g3, g4, _⟩ := hp.slice
    exact ⟨_, fun _ => exec_len ho h1 h2 h3 hy hk (g1.trans g2), Rd.int (wf_len (Nat.le_trans g3 g4))⟩
theorem OpQ.len_str {x : Operand} {t : TypeId} {c : Call} {s : List UInt8} {y : Ty} (ho : o.op = .call c) (h1 : c.callee = .builtin .len) (h2 : c.args = #[x]) (h3 : c.argTypes = #[t]) (hy : tinfo P t = some y) (hk : y.k = .str) (hx : st.ev x = .t (.str s)) (hK : KE (.t (.int .i64 s.length)) []) : OpQ P B W o os st KE :=
  OpQ.pure_ hK fun a w pl F hs => by
    obtain ⟨d, i, g1, _, g2, _⟩ := tinfo_parts hy
    have g3 : d = .string := by rw [hk] at g2; cases d <;> simp [kdOf] at g2 ⊢
    subst g3
    obtain ⟨g4, g5⟩ := hs.str_at hx
    refine ⟨.int .i64 s.length, fun _ => ?_, Rd.int (wf_len g5)⟩
    unfold execOp
    rw [ho]
    simp [resolve, h1, h2, h3, invoke, builtin, Builtin.len_, run_underlying g1, g4, goInt, bs_size]
theorem OpQ.index_str {t : TypeId} {x ix : Operand} {s : List UInt8} {n : Int} {k : IntKind} {y : Ty} (ho : o.op = .index t x ix) (hx : st.ev x = .t (.str s)) (hi : st.ev ix = .t (.int k n)) (hy : tinfo P t = some y) (hk : y.k = .str) (hn : 0 ≤ n ∧ n < s.length) (hK : KE (.t (.int .u8 ((s.getD n.toNat 0).toNat : Nat))) []) : OpQ P B W o os st KE :=
  OpQ.pure_ hK fun a w pl F hs => by
    obtain ⟨d, i, g1, _, g2, _⟩ := tinfo_parts hy
    have g3 : d = .string := by rw [hk] at g2; cases d <;> simp [kdOf] at g2 ⊢
    subst g3
    obtain ⟨g4, g5⟩ := hs.str_at hx
    obtain ⟨g6, _⟩ := hs.int_at hi
    have hlt : n.toNat < s.length := by omega
    refine ⟨.int .u8 ((s.getD n.toNat 0).toNat : Nat), fun _ => ?_, Rd.int ?_⟩
    · unfold execOp
      rw [ho]
      refine exec_value ?_
      rw [g4, g6]
      have hq : (bs s)[n.toNat]? = some (s.getD n.toNat 0) := by
        rw [getElem?_pos (bs s) n.toNat (by rw [bs_size]; exact hlt)]
        simp [bs, ByteArray.getElem_eq_getElem_data, List.getD_eq_getElem?_getD, hlt]
      simp [Instr.index, asIntOf, run_underlying g1, hn.1, hq]
    · exact wf_u8 _
theorem OpQ.extract {x : Operand} {i : Nat} {vs : List V} {v : V} (ho : o.op = .extract x i) (hx : st.ev x = .tup vs) (hv : vs[i]? = some v) (hK : KE v []) : OpQ P B W o os st KE :=
  OpQ.pure_ hK fun a w pl F hs => by
    have h1 := hs.ev x
    rw [hx] at h1
    obtain ⟨us, h2, h3, h4⟩ := h1
    have hlt : i < us.length := by rw [h3]; exact (List.getElem?_eq_some_iff.1 hv).1
    refine ⟨us[i], fun _ => ?_, (h4 i v _ hv (List.getElem?_eq_getElem hlt)).c2⟩
    unfold execOp
    rw [ho]
    simp [Instr.extract, h2, hlt]
theorem OpQ.not_ {x : Operand} {t : TypeId} {b : Bool} (ho : o.op = .unOp .not t x) (hx : st.ev x = .t (.bool b)) (hK : KE (.t (.bool (!b))) []) : OpQ P B W o os st KE :=
  OpQ.pure_ hK fun a w pl F hs => ⟨.bool (!b), fun _ => by unfold execOp; rw [ho]; simp [hs.bool_at hx, Op.unary], Rd.bool⟩
theorem OpQ.neg {x : Operand} {t : TypeId} {k : IntKind} {n : Int} (ho : o.op = .unOp .neg t x) (hx : st.ev x = .t (.int k n)) (hK : KE (.t (.int k (k.wrap (0 - n)))) []) : OpQ P B W o os st KE :=
  OpQ.pure_ hK fun a w pl F hs => ⟨_, fun _ => by unfold execOp; rw [ho]; simp only [(hs.int_at hx).1, Op.unary, Op.intArith]; rfl, Rd.int (wf_wrap _ _)⟩
theorem OpQ.cmp {op : BinOp} {t t' : TypeId} {x y : Operand} {k : IntKind} {m n : Int} {b : Bool} (ho : o.op = .binOp op t x y t') (hx : st.ev x = .t (.int k m)) (hy : st.ev y = .t (.int k n)) (hb : cmpV op m n = some b) (hK : KE (.t (.bool b)) []) : OpQ P B W o os st KE :=
  OpQ.pure_ hK fun a w pl F hs => by
    refine ⟨.bool b, fun _ => ?_, Rd.bool⟩
    unfold execOp
    rw [ho]
    refine exec_value ?_
    rw [(hs.int_at hx).1, (hs.int_at hy).1]
    cases op <;> simp only [cmpV, Option.some.injEq, reduceCtorEq] at hb <;> subst hb <;> simp [eqGuard, binOp, Op.intCmp] <;> rfl
theorem OpQ.arith {op : BinOp} {t t' : TypeId} {x y : Operand} {k : IntKind} {m n r : Int} (ho : o.op = .binOp op t x y t') (hx : st.ev x = .t (.int k m)) (hy : st.ev y = .t (.int k n)) (hb : arV op k m n = some r) (hK : KE (.t (.int k r)) []) : OpQ P B W o os st KE :=
  OpQ.pure_ hK fun a w pl F hs => by
    refine ⟨.int k r, fun _ => ?_, ?_⟩
    · unfold execOp
      rw [ho]
      refine exec_value ?_
      rw [(hs.int_at hx).1, (hs.int_at hy).1]
      cases op <;> simp only [arV, Option.some.injEq, reduceCtorEq] at hb <;> subst hb <;> simp [eqGuard, binOp, Op.intArith, Op.intBits]
    · refine Rd.int ?_
      cases op <;> simp only [arV, Option.some.injEq, reduceCtorEq] at hb <;> subst hb <;> exact wf_wrap _ _
theorem OpQ.arith_i {op : BinOp} {t t' : TypeId} {x y : Operand} {m n r : Int} (ho : o.op = .binOp op t x y t') (hx : st.ev x = .t (.int .i64 m)) (hy : st.ev y = .t (.int .i64 n)) (hb : arI op m n = some r) (hr : -9223372036854775808 ≤ r ∧ r ≤ 9223372036854775807) (hK : KE (.t (.int .i64 r)) []) : OpQ P B W o os st KE := by
  refine OpQ.arith (r := r) ho hx hy ?_ hK
  cases op <;> simp only [arI, Option.some.injEq, reduceCtorEq] at hb <;> subst hb <;> simp only [arV] <;> rw [wrap_i64 hr]
theorem OpQ.not_d {x : Operand} {t : TypeId} {p : Prop} [Decidable p] (ho : o.op = .unOp .not t x) (hx : st.ev x = .t (.bool (decide p))) (hK : KE (.t (.bool (decide (¬ p)))) []) : OpQ P B W o os st KE :=
  OpQ.not_ ho hx (by have : decide (¬ p) = !decide p := by by_cases h : p <;> simp [h]
                     rw [← this]; exact hK)
theorem OpQ.quo {t t' : TypeId} {x y : Operand} {k : IntKind} {m n : Int} (ho : o.op = .binOp .quo t x y t') (hx : st.ev x = .t (.int k m)) (hy : st.ev y = .t (.int k n)) (hn : n ≠ 0) (hK : KE (.t (.int k (k.wrap (m.tdiv n)))) []) : OpQ P B W o os st KE :=
  OpQ.pure_ hK fun a w pl F hs => by
    refine ⟨_, fun _ => ?_, Rd.int (wf_wrap _ _)⟩
    unfold execOp
    rw [ho]
    refine exec_value ?_
    rw [(hs.int_at hx).1, (hs.int_at hy).1]
    simp [eqGuard, binOp, Op.intDiv, hn]
theorem OpQ.quo_i {t t' : TypeId} {x y : Operand} {m n : Int} (ho : o.op = .binOp .quo t x y t') (hx : st.ev x = .t (.int .i64 m)) (hy : st.ev y = .t (.int .i64 n)) (hn : 0 < n) (hm : 0 ≤ m) (hK : KE (.t (.int .i64 (m / n))) []) : OpQ P B W o os st KE := by
  refine OpQ.pure_ hK fun a w pl F hs => ?_
  have h1 : m.tdiv n = m / n := Int.tdiv_eq_ediv_of_nonneg hm
  obtain ⟨h2, h3⟩ := hs.int_at hx
  have hb := bounds_i64 h3
  have h4 : m / n ≤ m := Int.ediv_le_self _ hm
  have h5 : 0 ≤ m / n := Int.ediv_nonneg hm (by omega)
  refine ⟨.int .i64 (m / n), fun _ => ?_, Rd.int (WalkArith.wf_i64 (by omega))⟩
  unfold execOp
  rw [ho]
  refine exec_value ?_
  rw [h2, (hs.int_at hy).1]
  have hn0 : n ≠ 0 := by omega
  simp [eqGuard, binOp, Op.intDiv, hn0, h1, wrap_i64 (show -9223372036854775808 ≤ m / n ∧ m / n ≤ 9223372036854775807 by omega)]
theorem OpQ.cmp_bool {op : BinOp} {t t' : TypeId} {x y : Operand} {m n b : Bool} {z : Ty} (ho : o.op = .binOp op t x y t') (hz : tinfo P t = some z) (hk : z.k = .bool) (hx : st.ev x = .t (.bool m)) (hy : st.ev y = .t (.bool n)) (hb : (match op with | .eql => some (m == n) | .neq => some (!(m == n)) | _ => none) = some b) (hK : KE (.t (.bool b)) []) : OpQ P B W o os st KE :=
  OpQ.pure_ hK fun a w pl F hs => by
    obtain ⟨d, i, g1, _, g2, _⟩ := tinfo_parts hz
    have g3 : d = .bool := by rw [hk] at g2; cases d <;> simp [kdOf] at g2 ⊢
    subst g3
    refine ⟨.bool b, fun _ => ?_, Rd.bool⟩
    unfold execOp
    rw [ho]
    refine exec_value ?_
    rw [hs.bool_at hx, hs.bool_at hy]
    cases op <;> simp only [Option.some.injEq, reduceCtorEq] at hb <;> subst hb <;> simp [eqGuard, run_eql_bool _ t m n g1, run_neq_bool _ t m n g1]
theorem OpQ.cmp_str {op : BinOp} {t t' : TypeId} {x y : Operand} {m n : List UInt8} {b : Bool} (ho : o.op = .binOp op t x y t') (hx : st.ev x = .t (.str m)) (hy : st.ev y = .t (.str n)) (hb : cmpS op m n = some b) (hK : KE (.t (.bool b)) []) : OpQ P B W o os st KE :=
  OpQ.pure_ hK fun a w pl F hs => by
    refine ⟨.bool b, fun _ => ?_, Rd.bool⟩
    unfold execOp
    rw [ho]
    refine exec_value ?_
    rw [(hs.str_at hx).1, (hs.str_at hy).1]
    have hbe : ∀ (p q : List UInt8), (p == q) = decide (p = q) := fun p q => by by_cases h : p = q <;> simp [h]
    cases op <;> simp only [cmpS, Option.some.injEq, reduceCtorEq] at hb <;> subst hb <;> simp [eqGuard, binOp, Op.stringOp, bs_toList, hbe] <;> rfl
end

/-! ### Whatever order is drawn -/
def QN (P : Program) (B : Nat → Prop) (W : En) (K : St → Prop) : Exit → Act → World → Prop
  | .normal, a, w => ∃ st', Sim P B W st' a w ∧ K st'
  | _, _, _ => False
/-- The objects os do not change. -/
def disjB : List Nat → List (Nat × Nat × Ob) → Bool
  | [], _ => true
  | o :: r, upd => match (upd.map (·.1)).contains o with | true => false | false => disjB r upd
def offB (os : List Nat) (upd : List (Nat × Nat × Ob)) (p : Prop) : Prop := match disjB os upd with | true => p | false => False
theorem disjB_ok : ∀ {os : List Nat} {upd : List (Nat × Nat × Ob)}, disjB os upd = true → ∀ i ∈ os, ∀ e ob, (i, e, ob) ∉ upd
  | [], _, _, i, hi => by cases hi
  | o :: r, upd, h, i, hi => by
    unfold disjB at h
    cases hc : (upd.map (·.1)).contains o with
    | true => rw [hc] at h; cases h
    | false =>
      rw [hc] at h
      rcases List.mem_cons.1 hi with rfl | hi
      · intro e ob hm
        have : (upd.map (·.1)).contains i = true := List.contains_iff_mem.2 (List.mem_map.2 ⟨_, hm, rfl⟩)
        rw [this] at hc
        cases hc
      · exact disjB_ok h i hi
theorem offB_ok {os : List Nat} {upd : List (Nat × Nat × Ob)} {p : Prop} (h : offB os upd p) : (∀ i ∈ os, ∀ e ob, (i, e, ob) ∉ upd) ∧ p := by
  unfold offB at h
  cases hc : disjB os upd with
  | true => rw [hc] at h; exact ⟨disjB_ok hc, h⟩
  | false => rw [hc] at h; exact h.elim
def SX (X : Nat → Prop) (w0 w : World) : Prop := ∀ b, X b → w.heap[b]? = w0.heap[b]?
def XOk (B : Nat → Prop) (W : En) (os : List Nat) (st : St) (X : Nat → Prop) (w0 w : World) (F : Nat → Nat → Prop) : Prop := ∀ b, X b → Rds B W os st w F b ∧ w.heap[b]? = w0.heap[b]?
theorem XOk.sx {B : Nat → Prop} {W : En} {os : List Nat} {st : St} {X : Nat → Prop} {w0 w : World} {F : Nat → Nat → Prop} (h : XOk B W os st X w0 w F) : SX X w0 w := fun b hb => (h b hb).2
def aA (P : Program) (B : Nat → Prop) (W : En) (ops : Array Oper) (os : List Nat) (n : Nat) (ls : Array Bool) (K : St → Prop) (st : St) : Prop :=
  ∀ w0 X a w pl F, SimW P B W st a w pl F → XOk B W os st X w0 w F → wpAnyH P .any ops (QN P B W K) (SX X w0) n ls a w
/-- The operation number i comes up. -/
def aO (P : Program) (B : Nat → Prop) (W : En) (ops : Array Oper) (os : List Nat) (n : Nat) (ls : Array Bool) (K : St → Prop) (st : St) (i : Nat) : Prop :=
  ∀ w0 X a w pl F, SimW P B W st a w pl F → XOk B W os st X w0 w F → wpOp P ops (QN P B W K) i (fun a' w' => SX X w0 w' ∧ wpAnyH P .any ops (QN P B W K) (SX X w0) n (ls.setIfInBounds i true) a' w') a w
def aOs (P : Program) (B : Nat → Prop) (W : En) (ops : Array Oper) (os : List Nat) (n : Nat) (ls : Array Bool) (K : St → Prop) (st : St) : List Nat → Prop
  | [] => True
  | i :: r => aO P B W ops os n ls K st i ∧ aOs P B W ops os n ls K st r
section
variable {P : Program} {B : Nat → Prop} {W : En} {ops : Array Oper} {K : St → Prop} {st : St} {o : Oper} {os : List Nat} {n i : Nat} {ls : Array Bool}
theorem aOs_at : ∀ {rs : List Nat}, aOs P B W ops os n ls K st rs → ∀ i ∈ rs, aO P B W ops os n ls K st i
  | [], _, i, h => by cases h
  | j :: r, h, i, hi => by
    rcases List.mem_cons.1 hi with rfl | hi
    · exact h.1
    · exact aOs_at h.2 i hi
theorem upds_look (st : St) (upd : List (Nat × Nat × Ob)) (d : Option Nat) (v : V) {i : Nat} (hi : ∀ e ob, (i, e, ob) ∉ upd) : look ((st.upds upd).put d v).objs i = look st.objs i := by
  rw [put_objs]
  exact look_updl_not upd st.objs i hi
theorem XOk.keeps {X : Nat → Prop} {w0 w w' : World} {F F' : Nat → Nat → Prop} {upd : List (Nat × Nat × Ob)} {d : Option Nat} {v : V} (h : XOk B W os st X w0 w F) (hk : Keeps B W st.objs ((st.upds upd).put d v).objs upd w w' F F') (hd : ∀ i ∈ os, ∀ e ob, (i, e, ob) ∉ upd) : XOk B W os ((st.upds upd).put d v) X w0 w' F' := fun b hb => by
  obtain ⟨h1, h2⟩ := h b hb
  rcases h1 with h1 | ⟨i, hi, x, hx, hf⟩
  · exact ⟨.inl (hk.free b h1), (hk.heap b h1).trans h2⟩
  · have h3 := hk.own i x b hx (hd i hi) hf
    exact ⟨.inr ⟨i, hi, x, by rw [upds_look st upd d v (hd i hi)]; exact hx, h3.1⟩, h3.2.trans h2⟩
theorem XOk.put {X : Nat → Prop} {w0 w : World} {F : Nat → Nat → Prop} {d : Option Nat} {v : V} (h : XOk B W os st X w0 w F) : XOk B W os (st.put d v) X w0 w F := fun b hb => by
  obtain ⟨h1, h2⟩ := h b hb
  refine ⟨?_, h2⟩
  unfold Rds at h1 ⊢
  rw [put_objs]
  exact h1
theorem SimW.undefW {a : Act} {w : World} {pl : Nat → Value} {F : Nat → Nat → Prop} (hs : SimW P B W st a w pl F) (d : Option Tmp) : SimW P B W (st.put d (.lit undef)) (a.put d undef) w pl F := hs.put (v := .lit undef) rfl d
theorem wpAnyH_mono {S S' : World → Prop} {Q : Exit → Act → World → Prop} (hS : ∀ w, S' w → S w) : ∀ {n : Nat} {ls : Array Bool} {a : Act} {w : World}, wpAnyH P .any ops Q S' n ls a w → wpAnyH P .any ops Q S n ls a w
  | 0, _, _, _, h => h
  | n + 1, ls, a, w, h => ⟨h.1, fun i hi => wpOp_mono (fun a w h => ⟨hS w h.1, wpAnyH_mono hS h.2⟩) (h.2 i hi)⟩
theorem aA.done {st' : St} (hr : Region.ready .any ops ls = []) (h0 : st = st') (h : K st') : aA P B W ops os n ls K st := fun w0 X a w pl F hs hX => wpAnyH_done hr ⟨st, ⟨pl, F, hs⟩, h0 ▸ h⟩ n
theorem aA.all {rs : List Nat} {j : Nat} {r : List Nat} (hr : Region.ready .any ops ls = rs) (he : rs = j :: r) (h : aOs P B W ops os n ls K st rs) : aA P B W ops os (n + 1) ls K st := fun w0 X a w pl F hs hX =>
  wpAnyH_all hr (by rw [he]; simp) fun i hi => aOs_at h i hi w0 X a w pl F hs hX
/-- It is carried out. -/
theorem aO.op {d : Option Tmp} (hi : ops[i]? = some o) (hg : o.guard = none) (hd : o.dst = d) (h : OpS P B W o st fun v upd => offB os upd (aA P B W ops os n (ls.setIfInBounds i true) K ((st.upds upd).put d v))) : aO P B W ops os n ls K st i := fun w0 X a w pl F hs hX => by
  subst hd
  unfold wpOp
  rw [hi]
  simp only []
  rw [if_pos (by simp [Region.wanted, hg])]
  refine .inl (h a w pl F hs _ _ fun v upd a' w' pl' F' hs' hkp hk => ?_)
  obtain ⟨h1, h2⟩ := offB_ok hk
  have hX' := hX.keeps hkp h1
  exact ⟨hX'.sx, h2 w0 X a' w' pl' F' hs' hX'⟩
theorem aO.g_yes {j d : Nat} {want b : Bool} {dd : Option Tmp} (hi : ops[i]? = some o) (hg : o.guard = some (j, want)) (hdd : o.dst = dd) (hd : (ops[j]?).bind (·.dst) = some d) (hv : st.ev (.tmp d) = .t (.bool b)) (hb : b = want)
    (h : OpS P B W o st fun v upd => offB os upd (aA P B W ops os n (ls.setIfInBounds i true) K ((st.upds upd).put dd v))) : aO P B W ops os n ls K st i := fun w0 X a w pl F hs hX => by
  subst hdd
  have hy := yield_at ⟨pl, F, hs⟩ hd hv
  unfold wpOp
  rw [hi]
  simp only []
  rw [if_pos (by simp [Region.wanted, hg, hy, hb])]
  refine .inl (h a w pl F hs _ _ fun v upd a' w' pl' F' hs' hkp hk => ?_)
  obtain ⟨h1, h2⟩ := offB_ok hk
  have hX' := hX.keeps hkp h1
  exact ⟨hX'.sx, h2 w0 X a' w' pl' F' hs' hX'⟩
theorem aO.g_no {j d : Nat} {want b : Bool} {dd : Option Tmp} (hi : ops[i]? = some o) (hg : o.guard = some (j, want)) (hdd : o.dst = dd) (hd : (ops[j]?).bind (·.dst) = some d) (hv : st.ev (.tmp d) = .t (.bool b)) (hb : b = !want)
    (h : aA P B W ops os n (ls.setIfInBounds i true) K (st.put dd (.lit undef))) : aO P B W ops os n ls K st i := fun w0 X a w pl F hs hX => by
  subst hdd
  have hy := yield_at ⟨pl, F, hs⟩ hd hv
  unfold wpOp
  rw [hi]
  simp only []
  rw [if_neg (by subst hb; cases want <;> simp [Region.wanted, hg, hy])]
  exact ⟨hX.sx, h w0 X _ _ pl F (hs.undefW _) hX.put⟩
theorem aO.g_not {j d : Nat} {want : Bool} {dd : Option Tmp} (hi : ops[i]? = some o) (hg : o.guard = some (j, want)) (hdd : o.dst = dd) (hd : (ops[j]?).bind (·.dst) = some d) (hv : st.ev (.tmp d) = .lit undef)
    (h : aA P B W ops os n (ls.setIfInBounds i true) K (st.put dd (.lit undef))) : aO P B W ops os n ls K st i := fun w0 X a w pl F hs hX => by
  subst hdd
  have hy := yield_not ⟨pl, F, hs⟩ hd hv
  unfold wpOp
  rw [hi]
  simp only []
  rw [if_neg (by simp [Region.wanted, hg, hy])]
  exact ⟨hX.sx, h w0 X _ _ pl F (hs.undefW _) hX.put⟩
/-- It is taken first. -/
theorem aA.take_ {d : Option Tmp} (hi : ops[i]? = some o) (hs : Region.noSelect ops = true) (hf : Region.free .any ops ls i = true) (hr : (Region.ready .any ops ls).contains i = true) (hw : ∀ a w, Sim P B W st a w → Region.wanted o (yielded ops a.tmps) = true) (hd : o.dst = d)
    (h : OpQ P B W o os st fun v upd => aA P B W ops os n (ls.setIfInBounds i true) K ((st.upds upd).put d v)) : aA P B W ops os (n + 1) ls K st := fun w0 X a w pl F hsim hX => by
  subst hd
  obtain ⟨v, hk, hp⟩ := h
  obtain ⟨u, hu, hc⟩ := hp a w pl F hsim
  refine wpAnyH_mono (S' := SX (Rds B W os st w F) w) (fun w' h' b hb => (h' b (hX b hb).1).trans (hX b hb).2) ?_
  refine wpAnyH_take (v := u) hi hs hf hr (fun c a w hq => hq) (.inl ⟨hw a w ⟨pl, F, hsim⟩, fun w' hw' => hu w' hw'⟩) (fun b _ => rfl) ?_
  exact hk w _ _ _ pl F (hsim.put hc _) (XOk.put fun b hb => ⟨hb, rfl⟩)
theorem aA.take {d : Option Tmp} (hi : ops[i]? = some o) (hs : Region.noSelect ops = true) (hf : Region.free .any ops ls i = true) (hr : (Region.ready .any ops ls).contains i = true) (hg : o.guard = none) (hd : o.dst = d)
    (h : OpQ P B W o os st fun v upd => aA P B W ops os n (ls.setIfInBounds i true) K ((st.upds upd).put d v)) : aA P B W ops os (n + 1) ls K st :=
  aA.take_ hi hs hf hr (fun a w _ => by simp [Region.wanted, hg]) hd h
theorem aA.t_yes {j d : Nat} {want b : Bool} {dd : Option Tmp} (hi : ops[i]? = some o) (hs : Region.noSelect ops = true) (hf : Region.free .any ops ls i = true) (hr : (Region.ready .any ops ls).contains i = true) (hg : o.guard = some (j, want)) (hdd : o.dst = dd) (hd : (ops[j]?).bind (·.dst) = some d) (hv : st.ev (.tmp d) = .t (.bool b)) (hb : b = want)
    (h : OpQ P B W o os st fun v upd => aA P B W ops os n (ls.setIfInBounds i true) K ((st.upds upd).put dd v)) : aA P B W ops os (n + 1) ls K st :=
  aA.take_ hi hs hf hr (fun a w hsim => by have hy := yield_at hsim hd hv; simp [Region.wanted, hg, hy, hb]) hdd h
theorem aA.t_n {dd : Option Tmp} (hi : ops[i]? = some o) (hs : Region.noSelect ops = true) (hf : Region.free .any ops ls i = true) (hr : (Region.ready .any ops ls).contains i = true) (hw : ∀ a w, Sim P B W st a w → Region.wanted o (yielded ops a.tmps) = false) (hdd : o.dst = dd)
    (h : aA P B W ops os n (ls.setIfInBounds i true) K (st.put dd (.lit undef))) : aA P B W ops os (n + 1) ls K st := fun w0 X a w pl F hsim hX => by
  subst hdd
  exact wpAnyH_take (v := undef) hi hs hf hr (fun c a w hq => hq) (.inr ⟨hw a w ⟨pl, F, hsim⟩, rfl⟩) hX.sx (h w0 X _ _ pl F (hsim.undefW _) hX.put)
theorem aA.t_no {j d : Nat} {want b : Bool} {dd : Option Tmp} (hi : ops[i]? = some o) (hs : Region.noSelect ops = true) (hf : Region.free .any ops ls i = true) (hr : (Region.ready .any ops ls).contains i = true) (hg : o.guard = some (j, want)) (hdd : o.dst = dd) (hd : (ops[j]?).bind (·.dst) = some d) (hv : st.ev (.tmp d) = .t (.bool b)) (hb : b = !want)
    (h : aA P B W ops os n (ls.setIfInBounds i true) K (st.put dd (.lit undef))) : aA P B W ops os (n + 1) ls K st :=
  aA.t_n hi hs hf hr (fun a w hsim => by have hy := yield_at hsim hd hv; subst hb; cases want <;> simp [Region.wanted, hg, hy]) hdd h
theorem aA.t_not {j d : Nat} {want : Bool} {dd : Option Tmp} (hi : ops[i]? = some o) (hs : Region.noSelect ops = true) (hf : Region.free .any ops ls i = true) (hr : (Region.ready .any ops ls).contains i = true) (hg : o.guard = some (j, want)) (hdd : o.dst = dd) (hd : (ops[j]?).bind (·.dst) = some d) (hv : st.ev (.tmp d) = .lit undef)
    (h : aA P B W ops os n (ls.setIfInBounds i true) K (st.put dd (.lit undef))) : aA P B W ops os (n + 1) ls K st :=
  aA.t_n hi hs hf hr (fun a w hsim => by have hy := yield_not hsim hd hv; simp [Region.wanted, hg, hy]) hdd h
theorem aA.t_d {j d : Nat} {want : Bool} {p : Prop} [Decidable p] {dd : Option Tmp} (hi : ops[i]? = some o) (hg : o.guard = some (j, want)) (hdd : o.dst = dd) (hd : (ops[j]?).bind (·.dst) = some d) (hv : st.ev (.tmp d) = .t (.bool (decide p)))
    (h1 : p → aA P B W ops os n ls K st) (h2 : ¬ p → aA P B W ops os n ls K st) : aA P B W ops os n ls K st := by
  by_cases hp : p
  · exact h1 hp
  · exact h2 hp
theorem aA.t_2 {j d : Nat} {want b : Bool} {dd : Option Tmp} (hi : ops[i]? = some o) (hg : o.guard = some (j, want)) (hdd : o.dst = dd) (hd : (ops[j]?).bind (·.dst) = some d) (hv : st.ev (.tmp d) = .t (.bool b))
    (h1 : b = true → aA P B W ops os n ls K st) (h2 : b = false → aA P B W ops os n ls K st) : aA P B W ops os n ls K st := by
  cases b
  · exact h2 rfl
  · exact h1 rfl
end

/-! ### Weaker states, where slots were written twice -/
def leU (r : List (Nat × V)) : List (Nat × V) → List Nat → Prop
  | [], _ => True
  | (i, v) :: r', seen => (match seen.elem i with | true => True | false => lookT r i = v) ∧ leU r r' (i :: seen)
def leOU (objs : List (Nat × Nat × Ob)) : List (Nat × Nat × Ob) → List Nat → Prop
  | [], _ => True
  | (o, e, b) :: r, seen => (match seen.elem o with | true => True | false => look objs o = some (e, b)) ∧ leOU objs r (o :: seen)
theorem closedB_at {st' : St} (hc : closedB st' = true) (o : Nat) (h : o ∈ st'.tmps.flatMap (fun p => ids2 p.2) ∨ ∃ i e ob, look st'.objs i = some (e, ob) ∧ o ∈ idsOb ob) : ∃ x, look st'.objs o = some x := by
  have hm : o ∈ idsAll st' := by
    rcases h with h | ⟨i, e, ob, h1, h2⟩
    · exact List.mem_append_left _ h
    · exact List.mem_append_right _ (List.mem_flatMap.2 ⟨_, look_mem h1, h2⟩)
  exact look_has (List.all_eq_true.1 hc o hm)
theorem lookT_mem : ∀ (r : List (Nat × V)) (i : Nat), lookT r i = .junk ∨ (i, lookT r i) ∈ r
  | [], i => .inl rfl
  | (j, v) :: r, i => by
    rw [lookT_cons]
    by_cases hj : j = i
    · subst hj; rw [if_pos rfl]; exact .inr (by simp)
    · rw [if_neg hj]
      rcases lookT_mem r i with h | h
      · exact .inl h
      · exact .inr (by simp [h])
theorem Le.self {st st' : St} (h0 : st = st') (hc : closedB st' = true) : Le st st' := by
  subst h0
  exact ⟨rfl, fun i => (lookT_mem st.tmps i).imp id fun h => ⟨_, h, rfl, rfl⟩, fun _ _ h => h, closedB_at hc⟩

/-! ### Regions -/
theorem LetsOut.mono_ {Q Q' : Exit → Act → World → Prop} (hq : ∀ e a w, Q e a w → Q' e a w) : LetsOut Q → LetsOut Q' := fun ⟨a, w, h⟩ => ⟨a, w, hq _ _ _ h⟩
theorem Oper.wp_monoQ {P : Program} {o : Oper} {a : Act} {w : World} {K : Act → World → Prop} {Q Q' : Exit → Act → World → Prop} (hq : ∀ e a w, Q e a w → Q' e a w)
    (hh : o.wp P a w K Q) : o.wp P a w K Q' := by
  unfold Oper.wp at *
  generalize (execOp a.eval o).run P w = r at *
  cases r with
  | ok n w' =>
    cases n <;> simp only [Oper.upon] at hh ⊢ <;>
      first
        | exact hh
        | exact Calls.mono hh (fun e w'' he => by cases e <;> first | exact (LetsOut.mono_ hq he) | exact hq _ _ _ he | exact he)
  | halt x w' => cases x <;> simp only [Oper.upon] at hh ⊢ <;> first | exact hq _ _ _ hh | exact hh
theorem wpOp_monoQ {P : Program} {ops : Array Oper} {i : Nat} {K : Act → World → Prop} {a : Act} {w : World} {Q Q' : Exit → Act → World → Prop} (hq : ∀ e a w, Q e a w → Q' e a w)
    (hh : wpOp P ops Q i K a w) : wpOp P ops Q' i K a w := by
  unfold wpOp at *
  split
  · simpa [*] using hh
  · rename_i o ho
    simp only [ho] at hh
    split
    · rename_i hw
      simp only [hw, if_true] at hh
      rcases hh with hh | ⟨h1, h2⟩
      · exact .inl (Oper.wp_monoQ hq hh)
      · exact .inr ⟨h1, LetsOut.mono_ hq h2⟩
    · rename_i hw; simp only [hw] at hh; exact hh
theorem wpAny_mono {P : Program} {ops : Array Oper} {md : Region.Mode} {Q Q' : Exit → Act → World → Prop} (hq : ∀ e a w, Q e a w → Q' e a w) : ∀ {n : Nat} {ls : Array Bool} {a : Act} {w : World}, wpAny P md ops Q n ls a w → wpAny P md ops Q' n ls a w
  | 0, ls, a, w, h => ⟨h.1, hq _ _ _ h.2⟩
  | n + 1, ls, a, w, h => ⟨fun h0 => hq _ _ _ (h.1 h0), fun i hi => wpOp_monoQ hq (wpOp_mono (fun a w h => wpAny_mono hq h) (h.2 i hi))⟩
section
variable {P : Program} {B : Nat → Prop} {W : En} {Q : Exit → St → Prop} {st : St}
theorem Sim.drawn {a : Act} {w : World} (hs : Sim P B W st a w) : Sim P B W st a { w with drawn := w.drawn + 1 } := by
  obtain ⟨pl, F, hs⟩ := hs
  exact ⟨pl, F, hs.below_ ⟨rfl, rfl, rfl, Nat.le_refl _, fun _ _ => rfl⟩⟩
/-- A region that draws its order: every order is walked, and what follows is shown at each end. -/
theorem aA.start {ops : Array Oper} {n : Nat} {ls : Array Bool} {K : St → Prop} {os : List Nat} (h : aA P B W ops os n ls K st) {a : Act} {w : World} (hs : Sim P B W st a w) : wpAny P .any ops (QN P B W K) n ls a w := by
  obtain ⟨pl, F, hs⟩ := hs
  exact wpAny_of_held _ _ _ _ (h w (fun _ => False) a w pl F hs fun b hb => hb.elim)
/-- The same: the ends are alike, and what follows is shown once. -/
theorem aW.draw {os : List Nat} {id n : Nat} {l : List Oper} {st' : St} (hm : P.follows .mixedOrders = true) (hsz : l.toArray.size = n) (h : aA P B W l.toArray os n (Array.replicate n false) (fun s => Le s st') st) (hn : Q .normal st') : aW P B W (.region id l.toArray true) Q st := fun a w hs =>
  wp_region_any hm (by
    subst hsz
    refine wpAny_mono ?_ (h.start hs.drawn)
    intro e a w hq
    cases e with
    | normal =>
      obtain ⟨s, h1, h2⟩ := hq
      exact ⟨st', h1.weak h2, hn⟩
    | _ => exact hq.elim)
end
end Go.Proofs.Ytmkpgcahmbancaa.Ab
