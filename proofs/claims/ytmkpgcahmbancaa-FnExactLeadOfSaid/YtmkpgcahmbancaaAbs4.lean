/- What is proved: the steps of single operations on abstract states, continued: rows, elements, numbers, texts.
   Conditions: none beyond those that each lemma names. -/
import Derived.Test.YtmkpgcahmbancaaAbs3
namespace Go.Proofs.Ytmkpgcahmbancaa.Ab
set_option linter.unusedSimpArgs false
set_option linter.unusedVariables false
open Go.RowKit

theorem flatten_at {α : Type} {s : Nat} : ∀ {els : List (List α)} (_ : ∀ x ∈ els, x.length = s) {i j : Nat} (_ : i < els.length) (_ : j < s), els.flatten[i * s + j]? = (els.getD i [])[j]?
  | [], _, _, _, hi, _ => by simp at hi
  | x :: els, hu, 0, j, _, hj => by
    have hx : x.length = s := hu x (by simp)
    simp only [List.flatten_cons, Nat.zero_mul, Nat.zero_add, List.getD_cons_zero]
    rw [List.getElem?_append_left (by omega)]
  | x :: els, hu, i + 1, j, hi, hj => by
    have hx : x.length = s := hu x (by simp)
    have ih := flatten_at (els := els) (fun y hy => hu y (by simp [hy])) (i := i) (j := j) (by simpa using hi) hj
    simp only [List.flatten_cons, List.getD_cons_succ]
    rw [Nat.add_mul, Nat.one_mul, List.getElem?_append_right (by omega), hx, ← ih]
    congr 1
    omega
theorem flatten_len {α : Type} {s : Nat} : ∀ {els : List (List α)} (_ : ∀ x ∈ els, x.length = s), els.flatten.length = els.length * s
  | [], _ => by simp
  | x :: els, hu => by
    have hx : x.length = s := hu x (by simp)
    rw [List.flatten_cons, List.length_append, hx, flatten_len (els := els) (fun y hy => hu y (by simp [hy])), List.length_cons, Nat.add_mul]
    omega
theorem getD_mem {α : Type} {els : List (List α)} {i : Nat} (hi : i < els.length) : els.getD i [] ∈ els := by
  rw [List.getD_eq_getElem?_getD, List.getElem?_eq_getElem hi]
  exact List.getElem_mem hi

section
variable {P : Program} {w : World} {CC : V → Value → Prop} {Fr : Nat → Prop} {v : Value} {F : Nat → Prop} {fl d : Bool} {e : TypeId} {els : List (List T)}
structure RowP (P : Program) (w : World) (Fr : Nat → Prop) (v : Value) (F : Nat → Prop) (fl d : Bool) (e : TypeId) (els : List (List T)) (us : List Value) : Prop where
  own : OwnsR w e (P.cellsOf e) v els.length us
  uni : ∀ x ∈ els, x.length = P.cellsOf e
  flt : fl = true → ∀ x ∈ els.flatten, x.flat = true
  len : els.flatten.length = us.length
  top : ∀ b, v.ownBlock = some b → F b
  rd : ∀ (k : Nat) (x : T) (u : Value), els.flatten[k]? = some x → us[k]? = some u → Rd P w (fun b => F b ∨ Fr b) x u
  shr : d = false → ∀ (k : Nat) (x : T) (u : Value), els.flatten[k]? = some x → us[k]? = some u → Rd P w Fr x u
theorem row_parts (h : ObR P w CC (Rd P w Fr) v F (.row fl d e els)) : ∃ us, RowP P w Fr v F fl d e els us := by
  rcases h with ⟨hd, h⟩ | ⟨hd, us, h1, h2, h3, h4, h5, h6⟩
  · cases h with
    | flat hf => cases hf
    | lst us fs h1 h2 h3 h4 h5 h6 h7 h8 =>
      exact ⟨us, h1, h2, h3, h4, fun b hb => (h8 b).2 (.inl hb), fun k x u hx hu => (h5 k x u hx hu).rd fun b hb => .inl ((h8 b).2 (.inr ⟨k, hb⟩)), fun hd' => by rw [hd] at hd'; cases hd'⟩
  · exact ⟨us, h1, h2, h3, h4, fun b hb => (h6 b).2 hb, fun k x u hx hu => (h5 k x u hx hu).mono (fun b hb => .inr hb) fun _ _ => rfl, fun _ => h5⟩
theorem RowP.slice {us : List Value} (h : RowP P w Fr v F fl d e els us) : ∃ A c, v = .slice A els.length c ∧ els.length ≤ c ∧ c ≤ maxLen ∧ (us ≠ [] → ∃ g off, A = some ⟨g, off, none⟩ ∧ v.ownBlock = some g ∧ blk v = some (g, off) ∧ ∀ k u, us[k]? = some u → w.cell? ⟨g, off + k, none⟩ = some u) := ownsRow_slice h.own
theorem RowP.cell {us : List Value} (h : RowP P w Fr v F fl d e els us) {k j : Nat} {x : T} (hk : k < els.length) (hj : (els.getD k [])[j]? = some x) : ∃ g off c u, v = .slice (some ⟨g, off, none⟩) els.length c ∧ v.ownBlock = some g ∧ w.cell? ⟨g, off + (k * P.cellsOf e + j), none⟩ = some u ∧ us[k * P.cellsOf e + j]? = some u ∧ els.flatten[k * P.cellsOf e + j]? = some x := by
  have hjl : j < P.cellsOf e := by
    have h1 := (List.getElem?_eq_some_iff.1 hj).1
    rw [h.uni _ (getD_mem hk)] at h1
    exact h1
  have hx : els.flatten[k * P.cellsOf e + j]? = some x := (flatten_at h.uni hk hjl).trans hj
  have hlt : k * P.cellsOf e + j < us.length := by rw [← h.len]; exact (List.getElem?_eq_some_iff.1 hx).1
  obtain ⟨A, c, rfl, h1, h2, h3⟩ := h.slice
  obtain ⟨g, off, rfl, h4, h5, h6⟩ := h3 (fun e => by rw [e] at hlt; simp at hlt)
  exact ⟨g, off, c, _, rfl, h4, h6 _ _ (List.getElem?_eq_getElem hlt), List.getElem?_eq_getElem hlt, hx⟩
end

section
variable {P : Program} {B : Nat → Prop} {W : En} {o : Oper} {st : St} {KE : V → List (Nat × Nat × Ob) → Prop}
section
variable {a : Act} {w : World} {pl : Nat → Value} {F : Nat → Nat → Prop}
theorem SimW.hnd_at (h : SimW P B W st a w pl F) {x : Operand} {i ep : Nat} {fl d : Bool} {e : TypeId} {els : List (List T)} (hx : st.ev x = .hnd i ep) (hl : look st.objs i = some (ep, .row fl d e els)) :
    a.eval x = pl i ∧ ∃ us, RowP P w (Free B W.o (look st.objs) F w) (pl i) (F i) fl d e els us := by
  have h1 := h.ev x
  rw [hx] at h1
  obtain ⟨_, ep', ob, h2, h3, h4⟩ : C0 P w (look st.objs) pl (Free B W.o (look st.objs) F w) (.hnd i ep) (a.eval x) := h1
  rw [hl] at h2
  cases h2
  exact ⟨(h4 rfl).2, row_parts (h.objs i _ _ hl)⟩
theorem SimW.t_at (h : SimW P B W st a w pl F) {x : Operand} {t : T} (hx : st.ev x = .t t) : Rd P w (Free B W.o (look st.objs) F w) t (a.eval x) := by
  have h1 := h.ev x
  rw [hx] at h1
  exact h1
theorem SimW.int_at (h : SimW P B W st a w pl F) {x : Operand} {k : IntKind} {n : Int} (hx : st.ev x = .t (.int k n)) : a.eval x = .int k n ∧ (Lit.int k n).wf = true := by
  have h1 := h.t_at hx
  cases h1' : a.eval x <;> rw [h1'] at h1 <;> cases h1
  exact ⟨rfl, by assumption⟩
theorem SimW.bool_at (h : SimW P B W st a w pl F) {x : Operand} {b : Bool} (hx : st.ev x = .t (.bool b)) : a.eval x = .bool b := by
  have h1 := h.t_at hx
  cases h1' : a.eval x <;> rw [h1'] at h1 <;> cases h1
  rfl
theorem SimW.str_at (h : SimW P B W st a w pl F) {x : Operand} {s : List UInt8} (hx : st.ev x = .t (.str s)) : a.eval x = .string (bs s) ∧ s.length ≤ maxLen := by
  have h1 := h.t_at hx
  generalize a.eval x = u at *
  cases h1
  exact ⟨rfl, by assumption⟩
theorem SimW.nil_at (h : SimW P B W st a w pl F) {x : Operand} (hx : st.ev x = .t .nil) : a.eval x = .slice none 0 0 := by
  have h1 := h.t_at hx
  generalize a.eval x = u at *
  cases h1
  rfl
theorem SimW.lst_at (h : SimW P B W st a w pl F) {x : Operand} {fl : Bool} {e : TypeId} {els : List (List T)} (hx : st.ev x = .t (.lst fl e els)) : ∃ A c us, a.eval x = .slice A els.length c ∧ els.length ≤ c ∧ c ≤ maxLen ∧ (∀ x ∈ els, x.length = P.cellsOf e) ∧ (fl = true → ∀ x ∈ els.flatten, x.flat = true) ∧ els.flatten.length = us.length ∧
    Mem w (Free B W.o (look st.objs) F w) A us ∧ ∀ (k : Nat) (x : T) (u : Value), els.flatten[k]? = some x → us[k]? = some u → Rd P w (Free B W.o (look st.objs) F w) x u := by
  have h1 := h.t_at hx
  generalize a.eval x = u at *
  cases h1 with
  | lst us h1 h2 h3 h4 h5 h6 h7 => exact ⟨_, _, us, rfl, h1, h2, h3, h4, h5, h6, h7⟩
end

/-! ### Elements -/
theorem exec_indexAddr {t : TypeId} {x ix : Operand} {a : Act} {w : World} {ad : Addr} {n : Int} {k : IntKind} {len c e es eb : Nat} {y : Ty} (ho : o.op = .indexAddr t x ix) (hy : tinfo P t = some y) (hk : y.k = .slice e es eb) (hes : es ≠ 0) (hx : a.eval x = .slice (some ad) len c) (hi : a.eval ix = .int k n) (hn : 0 ≤ n ∧ n < len) :
    (execOp a.eval o).run P w = .ok (.value (.pointer (some (ad.add (n.toNat * es))))) w := by
  obtain ⟨h1, h2, h3⟩ := slice_t hy hk
  have hsz : (sizeOf e).run P w = .ok es w := by
    subst h2
    unfold Program.cellsOf at hes ⊢
    unfold sizeOf typeInfo
    cases hi : P.info? e with
    | none => rw [hi] at hes; exact absurd rfl hes
    | some i => simp [hi]
  unfold execOp
  rw [ho]
  refine exec_value ?_
  rw [hx, hi]
  simp [Instr.indexAt, asIntOf, run_underlying h1, hn.1, hn.2, hsz]
theorem OpS.index_lst {t : TypeId} {x ix : Operand} {fl : Bool} {els : List (List T)} {n : Int} {k : IntKind} {e es eb e' : Nat} {y : Ty} (ho : o.op = .indexAddr t x ix) (hx : st.ev x = .t (.lst fl e' els)) (hi : st.ev ix = .t (.int k n)) (hy : tinfo P t = some y) (hk : y.k = .slice e es eb) (hes : es ≠ 0) (he : e' = e)
    (hn : 0 ≤ n ∧ n < els.length) (hK : KE (.rptr (els.getD n.toNat []) 0) []) : OpS P B W o st KE :=
  OpS.pure_ hK fun a w pl F hs => by
    subst he
    obtain ⟨A, c, us, h1, h2, h3, h4, h5, h6, h7, h8⟩ := hs.lst_at hx
    have hes' : P.cellsOf e' = es := (slice_t hy hk).2.1
    have hnn : n.toNat < els.length := by omega
    have hne : us ≠ [] := fun e => by
      have := flatten_len h4
      rw [h6, e, hes', List.length_nil] at this
      have := Nat.mul_pos (show 0 < els.length by omega) (Nat.pos_of_ne_zero hes)
      omega
    obtain ⟨ad, rfl, hb, hc⟩ := h7 hne
    refine ⟨_, exec_indexAddr ho hy hk hes h1 (hs.int_at hi).1 hn, _, rfl, fun j z hz => ?_⟩
    have hjl : j < es := by
      have h9 := (List.getElem?_eq_some_iff.1 hz).1
      rw [Nat.zero_add, h4 _ (getD_mem hnn), hes'] at h9
      exact h9
    have hx' := (flatten_at (s := es) (fun x hx => (h4 x hx).trans hes') hnn hjl).trans (by simpa using hz)
    have hlt : n.toNat * es + j < us.length := by rw [← h6]; exact (List.getElem?_eq_some_iff.1 hx').1
    exact ⟨by rw [block_of_add]; exact hb, _, by rw [add_of_add]; exact hc _ _ (List.getElem?_eq_getElem hlt), h8 _ _ _ hx' (List.getElem?_eq_getElem hlt)⟩
theorem OpS.index_hnd {t : TypeId} {x ix : Operand} {i ep : Nat} {fl d : Bool} {els : List (List T)} {n : Int} {k : IntKind} {e es eb e' : Nat} {y : Ty} (ho : o.op = .indexAddr t x ix) (hx : st.ev x = .hnd i ep) (hl : look st.objs i = some (ep, .row fl d e' els)) (hi : st.ev ix = .t (.int k n)) (hy : tinfo P t = some y) (hk : y.k = .slice e es eb) (hes : es ≠ 0) (he : e' = e)
    (hn : 0 ≤ n ∧ n < els.length) (hK : KE (.ptr i ep n.toNat 0) []) : OpS P B W o st KE :=
  OpS.pure_ hK fun a w pl F hs => by
    subst he
    obtain ⟨h1, us, hp⟩ := hs.hnd_at hx hl
    have hes' : P.cellsOf e' = es := (slice_t hy hk).2.1
    have hnn : n.toNat < els.length := by omega
    have h0 : 0 < (els.getD n.toNat []).length := by rw [hp.uni _ (getD_mem hnn)]; omega
    obtain ⟨g, bb, c, u, h2, h3, _⟩ := hp.cell (j := 0) hnn (List.getElem?_eq_getElem h0)
    refine ⟨_, exec_indexAddr ho hy hk hes (h1.trans h2) (hs.int_at hi).1 hn, rfl, _, _, hl, Nat.le_refl _, fun _ => ⟨g, bb, by rw [h2]; rfl, ?_⟩⟩
    rw [add_lit0]
    simp [esz, hes']
theorem OpS.load_row {ty : TypeId} {x : Operand} {i ep n off : Nat} {fl d : Bool} {e : TypeId} {els : List (List T)} {y : Ty} {v : V} (ho : o.op = .load ty x) (hx : st.ev x = .ptr i ep n off) (hl : look st.objs i = some (ep, .row fl d e els)) (hfd : fl = true ∨ d = false) (hn : n < els.length) (hy : tinfo P ty = some y)
    (hv : loadV y.k.agg y.size ((els.getD n []).map .t) off = some v) (hK : KE v []) : OpS P B W o st KE :=
  OpS.pure_ hK fun a w pl F hs => by
    have h1 := hs.ev x
    rw [hx] at h1
    obtain ⟨_, ep', ob, h2, h3, h4⟩ : C0 P w (look st.objs) pl (Free B W.o (look st.objs) F w) (.ptr i ep n off) (a.eval x) := h1
    rw [hl] at h2
    cases h2
    obtain ⟨g, bb, hg, hu⟩ := h4 rfl
    obtain ⟨us, hp⟩ := row_parts (hs.objs i _ _ hl)
    obtain ⟨u, h9, h10⟩ := run_loadVar_t hy hv ⟨g, bb + (n * esz P (.row fl d e els) + off), none⟩ (lk := look st.objs) (pl := pl) (Fr := Free B W.o (look st.objs) F w) (w := w) fun j z hz => by
      rw [List.getElem?_map, Option.map_eq_some_iff] at hz
      obtain ⟨q, hq, rfl⟩ := hz
      obtain ⟨g', bb', c, u, h5, h6, h7, h8, h9⟩ := hp.cell hn hq
      rw [h5] at hg
      simp only [blk, Option.some.injEq, Prod.mk.injEq] at hg
      obtain ⟨rfl, rfl⟩ := hg
      refine ⟨u, by rw [add_lit0]; simpa [esz, Nat.add_assoc] using h7, ?_⟩
      rcases hfd with hf | hd
      · exact (hp.rd _ _ _ h9 h8).flat (hp.flt hf _ (List.mem_of_getElem? h9))
      · exact hp.shr hd _ _ _ h9 h8
    exact ⟨u, exec_load ho hu h9, h10⟩
/-- An element by its number: m, and what stands there. -/
theorem OpS.index_at {t : TypeId} {x ix : Operand} {fl : Bool} {els : List (List T)} {n : Int} {k : IntKind} {e es eb e' m : Nat} {y : Ty} {cs : List T} (ho : o.op = .indexAddr t x ix) (hx : st.ev x = .t (.lst fl e' els)) (hi : st.ev ix = .t (.int k n)) (hy : tinfo P t = some y) (hk : y.k = .slice e es eb) (hes : es ≠ 0) (he : e' = e)
    (hm : n = (m : Int)) (hc : els[m]? = some cs) (hK : KE (.rptr cs 0) []) : OpS P B W o st KE := by
  have hlt : m < els.length := (List.getElem?_eq_some_iff.1 hc).1
  refine OpS.index_lst ho hx hi hy hk hes he (by omega) ?_
  have : els.getD n.toNat [] = cs := by rw [hm, Int.toNat_natCast, List.getD_eq_getElem?_getD, hc]; rfl
  rw [this]
  exact hK
theorem OpS.index_row {t : TypeId} {x ix : Operand} {i ep : Nat} {fl d : Bool} {els : List (List T)} {n : Int} {k : IntKind} {e es eb e' m : Nat} {y : Ty} (ho : o.op = .indexAddr t x ix) (hx : st.ev x = .hnd i ep) (hl : look st.objs i = some (ep, .row fl d e' els)) (hi : st.ev ix = .t (.int k n)) (hy : tinfo P t = some y) (hk : y.k = .slice e es eb) (hes : es ≠ 0) (he : e' = e)
    (hm : n = (m : Int)) (hlt : m < els.length) (hK : KE (.ptr i ep m 0) []) : OpS P B W o st KE := by
  refine OpS.index_hnd ho hx hl hi hy hk hes he (by omega) ?_
  rw [hm, Int.toNat_natCast]
  exact hK
theorem OpS.load_elem {ty : TypeId} {x : Operand} {i ep n off : Nat} {fl d : Bool} {e : TypeId} {els : List (List T)} {y : Ty} {v : V} {cs : List T} (ho : o.op = .load ty x) (hx : st.ev x = .ptr i ep n off) (hl : look st.objs i = some (ep, .row fl d e els)) (hfd : fl = true ∨ d = false) (hc : els[n]? = some cs) (hy : tinfo P ty = some y)
    (hv : loadV y.k.agg y.size (cs.map .t) off = some v) (hK : KE v []) : OpS P B W o st KE := by
  have hlt : n < els.length := (List.getElem?_eq_some_iff.1 hc).1
  have : els.getD n [] = cs := by rw [List.getD_eq_getElem?_getD, hc]; rfl
  exact OpS.load_row ho hx hl hfd hlt hy (by rw [this]; exact hv) hK
theorem at_map {α β : Type} [Inhabited α] {f : α → β} {xs : List α} {m : Nat} (h : m < xs.length) : (xs.map f)[m]? = some (f (xs.getD m default)) := by simp [h]
theorem exec_len {x : Operand} {t : TypeId} {c : Call} {a : Act} {w : World} {n cc : Nat} {A : Option Addr} {e es eb : Nat} {y : Ty} (ho : o.op = .call c) (h1 : c.callee = .builtin .len) (h2 : c.args = #[x]) (h3 : c.argTypes = #[t]) (hy : tinfo P t = some y) (hk : y.k = .slice e es eb) (hx : a.eval x = .slice A n cc) :
    (execOp a.eval o).run P w = .ok (.value (.int .i64 n)) w := by
  obtain ⟨g1, _, _⟩ := slice_t hy hk
  unfold execOp
  rw [ho]
  simp [resolve, h1, h2, h3, invoke, builtin, Builtin.len_, run_underlying g1, hx, goInt]
theorem wf_len {n : Nat} (h : n ≤ maxLen) : (Lit.int .i64 n).wf = true := WalkArith.wf_i64 (by simp only [maxLen] at h; omega)
theorem OpS.len_lst {x : Operand} {t : TypeId} {c : Call} {fl : Bool} {e' : Nat} {els : List (List T)} {e es eb : Nat} {y : Ty} (ho : o.op = .call c) (h1 : c.callee = .builtin .len) (h2 : c.args = #[x]) (h3 : c.argTypes = #[t]) (hy : tinfo P t = some y) (hk : y.k = .slice e es eb) (hx : st.ev x = .t (.lst fl e' els)) {m : Nat} (hm : els.length = m) (hK : KE (.t (.int .i64 m)) []) : OpS P B W o st KE :=
  OpS.pure_ hK fun a w pl F hs => by
    subst hm
    obtain ⟨A, c, us, g1, g2, g3, _⟩ := hs.lst_at hx
    exact ⟨_, exec_len ho h1 h2 h3 hy hk g1, Rd.int (wf_len (Nat.le_trans g2 g3))⟩
theorem OpS.len_nil {x : Operand} {t : TypeId} {c : Call} {e es eb : Nat} {y : Ty} (ho : o.op = .call c) (h1 : c.callee = .builtin .len) (h2 : c.args = #[x]) (h3 : c.argTypes = #[t]) (hy : tinfo P t = some y) (hk : y.k = .slice e es eb) (hx : st.ev x = .t .nil) (hK : KE (.t (.int .i64 0)) []) : OpS P B W o st KE :=
  OpS.pure_ hK fun a w pl F hs => ⟨_, exec_len ho h1 h2 h3 hy hk (hs.nil_at hx), Rd.int (wf_len (by simp [maxLen]))⟩
theorem OpS.len_hnd {x : Operand} {t : TypeId} {c : Call} {i ep : Nat} {fl d : Bool} {e' : Nat} {els : List (List T)} {e es eb : Nat} {y : Ty} (ho : o.op = .call c) (h1 : c.callee = .builtin .len) (h2 : c.args = #[x]) (h3 : c.argTypes = #[t]) (hy : tinfo P t = some y) (hk : y.k = .slice e es eb) (hx : st.ev x = .hnd i ep) (hl : look st.objs i = some (ep, .row fl d e' els)) {m : Nat} (hm : els.length = m) (hK : KE (.t (.int .i64 m)) []) : OpS P B W o st KE :=
  OpS.pure_ hK fun a w pl F hs => by
    subst hm
    obtain ⟨g1, us, hp⟩ := hs.hnd_at hx hl
    obtain ⟨A, c, g2, g3, g4, _⟩ := hp.slice
    exact ⟨_, exec_len ho h1 h2 h3 hy hk (g1.trans g2), Rd.int (wf_len (Nat.le_trans g3 g4))⟩
theorem bs_size (s : List UInt8) : (bs s).size = s.length := by simp [bs, ByteArray.size]
theorem OpS.len_str {x : Operand} {t : TypeId} {c : Call} {s : List UInt8} {y : Ty} (ho : o.op = .call c) (h1 : c.callee = .builtin .len) (h2 : c.args = #[x]) (h3 : c.argTypes = #[t]) (hy : tinfo P t = some y) (hk : y.k = .str) (hx : st.ev x = .t (.str s)) (hK : KE (.t (.int .i64 s.length)) []) : OpS P B W o st KE :=
  OpS.pure_ hK fun a w pl F hs => by
    obtain ⟨d, i, g1, _, g2, _⟩ := tinfo_parts hy
    have g3 : d = .string := by rw [hk] at g2; cases d <;> simp [kdOf] at g2 ⊢
    subst g3
    obtain ⟨g4, g5⟩ := hs.str_at hx
    refine ⟨.int .i64 s.length, ?_, Rd.int (wf_len g5)⟩
    unfold execOp
    rw [ho]
    simp [resolve, h1, h2, h3, invoke, builtin, Builtin.len_, run_underlying g1, g4, goInt, bs_size]
theorem wf_u8 (c : UInt8) : (Lit.int .u8 (c.toNat : Nat)).wf = true := by
  have := c.toNat_lt
  simp only [Lit.wf, IntKind.min, IntKind.max, IntKind.signed, IntKind.bits]
  simp
  omega
theorem OpS.index_str {t : TypeId} {x ix : Operand} {s : List UInt8} {n : Int} {k : IntKind} {y : Ty} (ho : o.op = .index t x ix) (hx : st.ev x = .t (.str s)) (hi : st.ev ix = .t (.int k n)) (hy : tinfo P t = some y) (hk : y.k = .str) (hn : 0 ≤ n ∧ n < s.length) (hK : KE (.t (.int .u8 ((s.getD n.toNat 0).toNat : Nat))) []) : OpS P B W o st KE :=
  OpS.pure_ hK fun a w pl F hs => by
    obtain ⟨d, i, g1, _, g2, _⟩ := tinfo_parts hy
    have g3 : d = .string := by rw [hk] at g2; cases d <;> simp [kdOf] at g2 ⊢
    subst g3
    obtain ⟨g4, g5⟩ := hs.str_at hx
    obtain ⟨g6, _⟩ := hs.int_at hi
    have hlt : n.toNat < s.length := by omega
    refine ⟨.int .u8 ((s.getD n.toNat 0).toNat : Nat), ?_, Rd.int ?_⟩
    · unfold execOp
      rw [ho]
      refine exec_value ?_
      rw [g4, g6]
      have hq : (bs s)[n.toNat]? = some (s.getD n.toNat 0) := by
        rw [getElem?_pos (bs s) n.toNat (by rw [bs_size]; exact hlt)]
        simp [bs, ByteArray.getElem_eq_getElem_data, List.getD_eq_getElem?_getD, hlt]
      simp [Instr.index, asIntOf, run_underlying g1, hn.1, hq]
    · exact wf_u8 _
/-! ### Parts of structs, of tuples -/
theorem OpS.extract {x : Operand} {i : Nat} {vs : List V} {v : V} (ho : o.op = .extract x i) (hx : st.ev x = .tup vs) (hv : vs[i]? = some v) (hK : KE v []) : OpS P B W o st KE :=
  OpS.pure_ hK fun a w pl F hs => by
    have h1 := hs.ev x
    rw [hx] at h1
    obtain ⟨us, h2, h3, h4⟩ := h1
    have hlt : i < us.length := by rw [h3]; exact (List.getElem?_eq_some_iff.1 hv).1
    refine ⟨us[i], ?_, (h4 i v _ hv (List.getElem?_eq_getElem hlt)).c2⟩
    unfold execOp
    rw [ho]
    simp [Instr.extract, h2, hlt]
theorem OpS.not_ {x : Operand} {t : TypeId} {b : Bool} (ho : o.op = .unOp .not t x) (hx : st.ev x = .t (.bool b)) (hK : KE (.t (.bool (!b))) []) : OpS P B W o st KE :=
  OpS.pure_ hK fun a w pl F hs => ⟨.bool (!b), by unfold execOp; rw [ho]; simp [hs.bool_at hx, Op.unary], Rd.bool⟩
theorem OpS.neg {x : Operand} {t : TypeId} {k : IntKind} {n : Int} (ho : o.op = .unOp .neg t x) (hx : st.ev x = .t (.int k n)) (hK : KE (.t (.int k (k.wrap (0 - n)))) []) : OpS P B W o st KE :=
  OpS.pure_ hK fun a w pl F hs => ⟨_, by unfold execOp; rw [ho]; simp only [(hs.int_at hx).1, Op.unary, Op.intArith]; rfl, Rd.int (wf_wrap _ _)⟩
/-! ### Numbers -/
def cmpV (op : BinOp) (a b : Int) : Option Bool :=
  match op with
  | .eql => some (decide (a = b)) | .neq => some (!decide (a = b)) | .lss => some (decide (a < b)) | .leq => some (decide (a ≤ b)) | .gtr => some (decide (b < a)) | .geq => some (decide (b ≤ a)) | _ => none
theorem OpS.cmp {op : BinOp} {t t' : TypeId} {x y : Operand} {k : IntKind} {m n : Int} {b : Bool} (ho : o.op = .binOp op t x y t') (hx : st.ev x = .t (.int k m)) (hy : st.ev y = .t (.int k n)) (hb : cmpV op m n = some b) (hK : KE (.t (.bool b)) []) : OpS P B W o st KE :=
  OpS.pure_ hK fun a w pl F hs => by
    refine ⟨.bool b, ?_, Rd.bool⟩
    unfold execOp
    rw [ho]
    refine exec_value ?_
    rw [(hs.int_at hx).1, (hs.int_at hy).1]
    cases op <;> simp only [cmpV, Option.some.injEq, reduceCtorEq] at hb <;> subst hb <;> simp [eqGuard, binOp, Op.intCmp] <;> rfl
def arV (op : BinOp) (k : IntKind) (a b : Int) : Option Int :=
  match op with
  | .add => some (k.wrap (a + b)) | .sub => some (k.wrap (a - b)) | .mul => some (k.wrap (a * b))
  | .and => some (k.wrap (BitVec.ofInt k.bits a &&& BitVec.ofInt k.bits b).toNat) | .or => some (k.wrap (BitVec.ofInt k.bits a ||| BitVec.ofInt k.bits b).toNat) | .xor => some (k.wrap (BitVec.ofInt k.bits a ^^^ BitVec.ofInt k.bits b).toNat)
  | .andNot => some (k.wrap (BitVec.ofInt k.bits a &&& ~~~BitVec.ofInt k.bits b).toNat)
  | _ => none
theorem OpS.arith {op : BinOp} {t t' : TypeId} {x y : Operand} {k : IntKind} {m n r : Int} (ho : o.op = .binOp op t x y t') (hx : st.ev x = .t (.int k m)) (hy : st.ev y = .t (.int k n)) (hb : arV op k m n = some r) (hK : KE (.t (.int k r)) []) : OpS P B W o st KE :=
  OpS.pure_ hK fun a w pl F hs => by
    refine ⟨.int k r, ?_, ?_⟩
    · unfold execOp
      rw [ho]
      refine exec_value ?_
      rw [(hs.int_at hx).1, (hs.int_at hy).1]
      cases op <;> simp only [arV, Option.some.injEq, reduceCtorEq] at hb <;> subst hb <;> simp [eqGuard, binOp, Op.intArith, Op.intBits]
    · refine Rd.int ?_
      cases op <;> simp only [arV, Option.some.injEq, reduceCtorEq] at hb <;> subst hb <;> exact wf_wrap _ _
def arI (op : BinOp) (a b : Int) : Option Int := match op with | .add => some (a + b) | .sub => some (a - b) | .mul => some (a * b) | _ => none
theorem wrap_i64 {n : Int} (h : -9223372036854775808 ≤ n ∧ n ≤ 9223372036854775807) : IntKind.i64.wrap n = n := by
  simp only [IntKind.wrap, IntKind.bits, IntKind.signed]
  simp
  omega
/-- int's arithmetic, where it stays in range. -/
theorem OpS.arith_i {op : BinOp} {t t' : TypeId} {x y : Operand} {m n r : Int} (ho : o.op = .binOp op t x y t') (hx : st.ev x = .t (.int .i64 m)) (hy : st.ev y = .t (.int .i64 n)) (hb : arI op m n = some r) (hr : -9223372036854775808 ≤ r ∧ r ≤ 9223372036854775807) (hK : KE (.t (.int .i64 r)) []) : OpS P B W o st KE := by
  refine OpS.arith (r := r) ho hx hy ?_ hK
  cases op <;> simp only [arI, Option.some.injEq, reduceCtorEq] at hb <;> subst hb <;> simp only [arV] <;> rw [wrap_i64 hr]
theorem OpS.not_d {x : Operand} {t : TypeId} {p : Prop} [Decidable p] (ho : o.op = .unOp .not t x) (hx : st.ev x = .t (.bool (decide p))) (hK : KE (.t (.bool (decide (¬ p)))) []) : OpS P B W o st KE :=
  OpS.not_ ho hx (by have : decide (¬ p) = !decide p := by by_cases h : p <;> simp [h]
                     rw [← this]; exact hK)
theorem OpS.quo {t t' : TypeId} {x y : Operand} {k : IntKind} {m n : Int} (ho : o.op = .binOp .quo t x y t') (hx : st.ev x = .t (.int k m)) (hy : st.ev y = .t (.int k n)) (hn : n ≠ 0) (hK : KE (.t (.int k (k.wrap (m.tdiv n)))) []) : OpS P B W o st KE :=
  OpS.pure_ hK fun a w pl F hs => by
    refine ⟨_, ?_, Rd.int (wf_wrap _ _)⟩
    unfold execOp
    rw [ho]
    refine exec_value ?_
    rw [(hs.int_at hx).1, (hs.int_at hy).1]
    simp [eqGuard, binOp, Op.intDiv, hn]
theorem OpS.quo_i {t t' : TypeId} {x y : Operand} {m n : Int} (ho : o.op = .binOp .quo t x y t') (hx : st.ev x = .t (.int .i64 m)) (hy : st.ev y = .t (.int .i64 n)) (hn : 0 < n) (hm : 0 ≤ m) (hK : KE (.t (.int .i64 (m / n))) []) : OpS P B W o st KE := by
  refine OpS.pure_ hK fun a w pl F hs => ?_
  have h1 : m.tdiv n = m / n := Int.tdiv_eq_ediv_of_nonneg hm
  obtain ⟨h2, h3⟩ := hs.int_at hx
  have hb := bounds_i64 h3
  have h4 : m / n ≤ m := Int.ediv_le_self _ hm
  have h5 : 0 ≤ m / n := Int.ediv_nonneg hm (by omega)
  refine ⟨.int .i64 (m / n), ?_, Rd.int (WalkArith.wf_i64 (by omega))⟩
  unfold execOp
  rw [ho]
  refine exec_value ?_
  rw [h2, (hs.int_at hy).1]
  have hn0 : n ≠ 0 := by omega
  simp [eqGuard, binOp, Op.intDiv, hn0, h1, wrap_i64 (show -9223372036854775808 ≤ m / n ∧ m / n ≤ 9223372036854775807 by omega)]
theorem OpS.cmp_bool {op : BinOp} {t t' : TypeId} {x y : Operand} {m n b : Bool} {z : Ty} (ho : o.op = .binOp op t x y t') (hz : tinfo P t = some z) (hk : z.k = .bool) (hx : st.ev x = .t (.bool m)) (hy : st.ev y = .t (.bool n)) (hb : (match op with | .eql => some (m == n) | .neq => some (!(m == n)) | _ => none) = some b) (hK : KE (.t (.bool b)) []) : OpS P B W o st KE :=
  OpS.pure_ hK fun a w pl F hs => by
    obtain ⟨d, i, g1, _, g2, _⟩ := tinfo_parts hz
    have g3 : d = .bool := by rw [hk] at g2; cases d <;> simp [kdOf] at g2 ⊢
    subst g3
    refine ⟨.bool b, ?_, Rd.bool⟩
    unfold execOp
    rw [ho]
    refine exec_value ?_
    rw [hs.bool_at hx, hs.bool_at hy]
    cases op <;> simp only [Option.some.injEq, reduceCtorEq] at hb <;> subst hb <;> simp [eqGuard, run_eql_bool w t m n g1, run_neq_bool w t m n g1]
theorem bs_toList (s : List UInt8) : (bs s).toList = s := ByteArray.toList_mk s
def cmpS (op : BinOp) (a b : List UInt8) : Option Bool :=
  match op with
  | .eql => some (decide (a = b)) | .neq => some (!decide (a = b)) | .lss => some (Op.bytesLess a b) | .leq => some (Op.bytesLess a b || decide (a = b)) | .gtr => some (!(Op.bytesLess a b || decide (a = b))) | .geq => some (!Op.bytesLess a b) | _ => none
theorem OpS.cmp_str {op : BinOp} {t t' : TypeId} {x y : Operand} {m n : List UInt8} {b : Bool} (ho : o.op = .binOp op t x y t') (hx : st.ev x = .t (.str m)) (hy : st.ev y = .t (.str n)) (hb : cmpS op m n = some b) (hK : KE (.t (.bool b)) []) : OpS P B W o st KE :=
  OpS.pure_ hK fun a w pl F hs => by
    refine ⟨.bool b, ?_, Rd.bool⟩
    unfold execOp
    rw [ho]
    refine exec_value ?_
    rw [(hs.str_at hx).1, (hs.str_at hy).1]
    have hbe : ∀ (p q : List UInt8), (p == q) = decide (p = q) := fun p q => by by_cases h : p = q <;> simp [h]
    cases op <;> simp only [cmpS, Option.some.injEq, reduceCtorEq] at hb <;> subst hb <;> simp [eqGuard, binOp, Op.stringOp, bs_toList, hbe] <;> rfl
theorem OpS.add_str {t t' : TypeId} {x y : Operand} {m n : List UInt8} (ho : o.op = .binOp .add t x y t') (hx : st.ev x = .t (.str m)) (hy : st.ev y = .t (.str n)) (hl : m.length + n.length ≤ maxLen) (hK : KE (.t (.str (m ++ n))) []) : OpS P B W o st KE :=
  OpS.pure_ hK fun a w pl F hs => by
    refine ⟨.string (bs (m ++ n)), ?_, Rd.str (by rw [List.length_append]; exact hl)⟩
    unfold execOp
    rw [ho]
    refine exec_value ?_
    rw [(hs.str_at hx).1, (hs.str_at hy).1]
    have h1 : bs m ++ bs n = bs (m ++ n) := ByteArray.mk_append_mk m n
    have h2 : ¬ (((bs m).size + (bs n).size : Nat) : Int) > IntKind.i64.max := by
      rw [bs_size, bs_size]
      have : IntKind.i64.max = 9223372036854775807 := by decide
      simp only [maxLen] at hl
      omega
    simp only [eqGuard, binOp, Op.stringOp, h1, if_neg h2]
    simp
end
end Go.Proofs.Ytmkpgcahmbancaa.Ab
