/- What is proved: the calculus of abstract states: loads that may be taken first where a region draws its order.
   Conditions: none beyond those that each lemma names. -/
import Derived.Test.YtmkpgcahmbancaaAbsI
namespace Go.Proofs.Ytmkpgcahmbancaa.Ab
set_option linter.unusedSimpArgs false
set_option linter.unusedVariables false
open Go.RowKit
section
variable {P : Program} {B : Nat → Prop} {W : En} {o : Oper} {os : List Nat} {st : St} {KE : V → List (Nat × Nat × Ob) → Prop}
theorem run_loadVar_k {t : TypeId} {y : Ty} (hy : tinfo P t = some y) {w : World} {lk : Nat → Option (Nat × Ob)} {pl : Nat → Value} {Fr : Nat → Prop} {cs : List V} {off : Nat} {v : V} (hv : loadV y.k.agg y.size cs off = some v) (ad : Addr)
    (hc : ∀ (j : Nat) (x : V), cs[off + j]? = some x → ∃ u, w.cell? (ad.add j) = some u ∧ C0 P w lk pl Fr x u) : ∃ u, (∀ w', (∀ (j : Nat) (x : V), cs[off + j]? = some x → w'.cell? (ad.add j) = w.cell? (ad.add j)) → (loadVar t ad).run P w' = .ok u w') ∧ C2 P w lk pl Fr v u := by
  unfold loadV at hv
  cases hag : y.k.agg
  · rw [hag] at hv
    simp only [Bool.false_eq_true, if_false] at hv
    obtain ⟨u, h1, h2⟩ := hc 0 v (by simpa using hv)
    refine ⟨u, fun w' hw' => ?_, h2.c2⟩
    have h3 := hw' 0 v (by simpa using hv)
    rw [h1] at h3
    have h1' : w'.cell? ad = some u := by simpa [Addr.add] using h3
    unfold loadVar
    rw [Sem.run_bind, run_isAgg_t w' hy, Result.andThen_ok, hag]
    simp only [Bool.false_eq_true, if_false]
    rw [run_load, h1']
  · rw [hag] at hv
    simp only [if_true] at hv
    split at hv
    · rename_i hle
      cases hv
      have hx : ∀ j, j < y.size → ∃ u, w.cell? (ad.add j) = some u ∧ ∀ x, cs[off + j]? = some x → C0 P w lk pl Fr x u := fun j hj => by
        have hlt : off + j < cs.length := by omega
        obtain ⟨u, h1, h2⟩ := hc j _ (List.getElem?_eq_getElem hlt)
        exact ⟨u, h1, fun x hx => by rw [List.getElem?_eq_getElem hlt] at hx; cases hx; exact h2⟩
      let f : Nat → Value := fun j => (w.cell? (ad.add j)).getD undef
      have hf : ∀ j, j < y.size → w.cell? (ad.add j) = some (f j) := fun j hj => by
        obtain ⟨u, h1, _⟩ := hx j hj
        show _ = some ((w.cell? (ad.add j)).getD undef)
        rw [h1]; rfl
      refine ⟨.agg ((List.range y.size).map f).toArray, fun w' hw' => ?_, ?_⟩
      · unfold loadVar
        rw [Sem.run_bind, run_isAgg_t w' hy, Result.andThen_ok, hag]
        simp only [if_true]
        rw [Sem.run_bind, run_sizeOf_t w' hy, Result.andThen_ok, Sem.run_bind, run_loadCells w' ad y.size f fun j hj => (hw' j _ (List.getElem?_eq_getElem (show off + j < cs.length by omega))).trans (hf j hj), Result.andThen_ok]
        rfl
      · refine ⟨(List.range y.size).map f, rfl, by simp; omega, fun k x u h1 h2 => ?_⟩
        rw [List.getElem?_take] at h1
        split at h1
        · rename_i hk
          rw [List.getElem?_drop] at h1
          rw [List.getElem?_map, List.getElem?_range hk] at h2
          obtain ⟨u', h3, h4⟩ := hx k hk
          have : u = u' := by
            have h5 := hf k hk
            rw [h3] at h5
            cases h2
            exact (Option.some.inj h5).symm
          rw [this]
          exact h4 x h1
        · cases h1
    · cases hv
/-! ### Struct literals, part by part -/
inductive FillN (fs : List (Nat × Nat)) : List V → List (Nat × V) → List V → Prop
  | nil {cs : List V} : FillN fs cs [] cs
  | cons {cs cs1 cs' vs : List V} {i off n : Nat} {v v' : V} {r : List (Nat × V)} : v = v' → fs[i]? = some (off, n) → cellsV v' = vs → vs.all V.sto = true → Nat.beq vs.length n = true → Nat.ble (off + n) cs.length = true → Ab.setRange cs off vs = cs1 → FillN fs cs1 r cs' → FillN fs cs ((i, v) :: r) cs'
theorem FillN.eq {fs : List (Nat × Nat)} {cs cs' : List V} {l : List (Nat × V)} (h : FillN fs cs l cs') : fillV fs cs l = some cs' := by
  induction h with
  | nil => rfl
  | cons hv hf hc hs hn hle hr _ ih =>
    subst hv
    unfold fillV
    rw [hf]
    simp only [hc, hs, hn, hle, Bool.and_self, if_true, hr]
    exact ih
theorem FillN.step {fs : List (Nat × Nat)} {cs cs1 cs' vs : List V} {i off n : Nat} {v v' : V} {r : List (Nat × V)} (hv : v = v') (hf : fs[i]? = some (off, n)) (hc : cellsV v' = vs) (hs : vs.all V.sto = true) (hn : Nat.beq vs.length n = true) (hle : Nat.ble (off + n) cs.length = true) (hr : Ab.setRange cs off vs = cs1) (h : FillN fs cs1 r cs') : FillN fs cs ((i, v) :: r) cs' := .cons hv hf hc hs hn hle hr h
theorem OpQ.held {v : V} (hK : KE v []) (h : OpP P B W o os st v) : OpQ P B W o os st KE := ⟨v, hK, h⟩
theorem OpQ.load_rptr {ty : TypeId} {x : Operand} {off : Nat} {cs : List T} {y : Ty} {v : V} (ho : o.op = .load ty x) (hx : st.ev x = .rptr cs off) (hy : tinfo P ty = some y)
    (hv : loadV y.k.agg y.size (cs.map .t) off = some v) (hK : KE v []) : OpQ P B W o os st KE :=
  OpQ.held hK fun a w pl F hs => by
    have h1 := hs.ev x
    rw [hx] at h1
    obtain ⟨ad, h2, h3⟩ : C0 P w (look st.objs) pl (Free B W.o (look st.objs) F w) (.rptr cs off) (a.eval x) := h1
    obtain ⟨u, h9, h10⟩ := run_loadVar_k hy hv ad (lk := look st.objs) (pl := pl) (Fr := Free B W.o (look st.objs) F w) (w := w) fun j z hz => by
      rw [List.getElem?_map, Option.map_eq_some_iff] at hz
      obtain ⟨q, hq, rfl⟩ := hz
      obtain ⟨_, u, hu, hr⟩ := h3 j q hq
      exact ⟨u, hu, hr⟩
    refine ⟨u, fun w' hw' => exec_load ho h2 (h9 w' fun j z hz => ?_), h10⟩
    rw [List.getElem?_map, Option.map_eq_some_iff] at hz
    obtain ⟨q, hq, rfl⟩ := hz
    exact World.cell?_of_block (by rw [block_of_add]; exact hw' _ (.inl (h3 j q hq).1))
theorem OpQ.load_box {ty : TypeId} {x : Operand} {i ep off : Nat} {bt : TypeId} {cs : List V} {y : Ty} {v : V} (ho : o.op = .load ty x) (hx : st.ev x = .ptr i ep 0 off) (hl : look st.objs i = some (ep, .box bt cs)) (hos : os.contains i = true) (hy : tinfo P ty = some y)
    (hv : loadV y.k.agg y.size cs off = some v) (hK : KE v []) : OpQ P B W o os st KE :=
  OpQ.held hK fun a w pl F hs => by
    have h1 := hs.ev x
    rw [hx] at h1
    obtain ⟨_, ep', ob, h2, h3, h4⟩ : C0 P w (look st.objs) pl (Free B W.o (look st.objs) F w) (.ptr i ep 0 off) (a.eval x) := h1
    rw [hl] at h2
    cases h2
    obtain ⟨g, bb, hg, hu⟩ := h4 rfl
    obtain ⟨g', us, h5, h6, h7, h8⟩ := hs.objs i _ _ hl
    rw [h5] at hg
    simp only [blk, Option.some.injEq, Prod.mk.injEq] at hg
    obtain ⟨rfl, rfl⟩ := hg
    obtain ⟨u, h9, h10⟩ := run_loadVar_k hy hv ⟨g', 0 + (0 * esz P (.box bt cs) + off), none⟩ (lk := look st.objs) (pl := pl) (Fr := Free B W.o (look st.objs) F w) (w := w) fun j z hz => by
      obtain ⟨u, hu1, hu2⟩ := Pw.at_ (R := C0 P w (look st.objs) pl (Free B W.o (look st.objs) F w)) ⟨h8.1, h8.2⟩ hz
      refine ⟨u, ?_, hu2⟩
      rw [add_lit0, cell_of_row w g' _ _ _ _ h7]
      simpa using hu1
    exact ⟨u, fun w' hw' => exec_load ho hu (h9 w' fun j z hz => World.cell?_of_block (by rw [block_of_add]; exact hw' g' (.inr ⟨i, List.contains_iff_mem.1 hos, _, hl, (h6 g').2 rfl⟩))), h10⟩
theorem OpQ.load_row {ty : TypeId} {x : Operand} {i ep n off : Nat} {fl d : Bool} {e : TypeId} {els : List (List T)} {y : Ty} {v : V} (ho : o.op = .load ty x) (hx : st.ev x = .ptr i ep n off) (hl : look st.objs i = some (ep, .row fl d e els)) (hos : os.contains i = true) (hfd : fl = true ∨ d = false) (hn : n < els.length) (hy : tinfo P ty = some y)
    (hv : loadV y.k.agg y.size ((els.getD n []).map .t) off = some v) (hK : KE v []) : OpQ P B W o os st KE :=
  OpQ.held hK fun a w pl F hs => by
    have h1 := hs.ev x
    rw [hx] at h1
    obtain ⟨_, ep', ob, h2, h3, h4⟩ : C0 P w (look st.objs) pl (Free B W.o (look st.objs) F w) (.ptr i ep n off) (a.eval x) := h1
    rw [hl] at h2
    cases h2
    obtain ⟨g, bb, hg, hu⟩ := h4 rfl
    obtain ⟨us, hp⟩ := row_parts (hs.objs i _ _ hl)
    obtain ⟨u, h9, h10⟩ := run_loadVar_k hy hv ⟨g, bb + (n * esz P (.row fl d e els) + off), none⟩ (lk := look st.objs) (pl := pl) (Fr := Free B W.o (look st.objs) F w) (w := w) fun j z hz => by
      rw [List.getElem?_map, Option.map_eq_some_iff] at hz
      obtain ⟨q, hq, rfl⟩ := hz
      obtain ⟨g', bb', c, u, h5, h6, h7, h8, h9⟩ := hp.cell hn hq
      rw [h5] at hg
      simp only [blk, Option.some.injEq, Prod.mk.injEq] at hg
      obtain ⟨rfl, rfl⟩ := hg
      refine ⟨u, by rw [add_lit0]; simpa [esz, Nat.add_assoc] using h7, ?_⟩
      rcases hfd with hf | hd
      · exact (hp.rd _ _ _ h9 h8).flat (hp.flt hf _ (List.mem_of_getElem? h9))
      · exact hp.shr hd _ _ _ h9 h8
    refine ⟨u, fun w' hw' => exec_load ho hu (h9 w' fun j z hz => World.cell?_of_block ?_), h10⟩
    rw [List.getElem?_map, Option.map_eq_some_iff] at hz
    obtain ⟨q, hq, rfl⟩ := hz
    obtain ⟨g', bb', c, u', h5, h6, h7, h8, h9'⟩ := hp.cell hn hq
    rw [h5] at hg
    simp only [blk, Option.some.injEq, Prod.mk.injEq] at hg
    obtain ⟨rfl, rfl⟩ := hg
    rw [block_of_add]
    exact hw' g' (.inr ⟨i, List.contains_iff_mem.1 hos, _, hl, hp.top _ (by rw [h5]; rfl)⟩)
theorem OpQ.load_elem {ty : TypeId} {x : Operand} {i ep n off : Nat} {fl d : Bool} {e : TypeId} {els : List (List T)} {y : Ty} {v : V} {cs : List T} (ho : o.op = .load ty x) (hx : st.ev x = .ptr i ep n off) (hl : look st.objs i = some (ep, .row fl d e els)) (hos : os.contains i = true) (hfd : fl = true ∨ d = false) (hc : els[n]? = some cs) (hy : tinfo P ty = some y)
    (hv : loadV y.k.agg y.size (cs.map .t) off = some v) (hK : KE v []) : OpQ P B W o os st KE := by
  have hlt : n < els.length := (List.getElem?_eq_some_iff.1 hc).1
  have : els.getD n [] = cs := by rw [List.getD_eq_getElem?_getD, hc]; rfl
  exact OpQ.load_row ho hx hl hos hfd hlt hy (by rw [this]; exact hv) hK
theorem OpQ.add_str {t t' : TypeId} {x y : Operand} {m n : List UInt8} (ho : o.op = .binOp .add t x y t') (hx : st.ev x = .t (.str m)) (hy : st.ev y = .t (.str n)) (hl : m.length + n.length ≤ maxLen) (hK : KE (.t (.str (m ++ n))) []) : OpQ P B W o os st KE :=
  OpQ.pure_ hK fun a w pl F hs => by
    refine ⟨.string (bs (m ++ n)), fun w' => ?_, Rd.str (by rw [List.length_append]; exact hl)⟩
    unfold execOp
    rw [ho]
    refine exec_value ?_
    rw [(hs.str_at hx).1, (hs.str_at hy).1]
    have h1 : bs m ++ bs n = bs (m ++ n) := ByteArray.mk_append_mk m n
    have h2 : ¬ (((bs m).size + (bs n).size : Nat) : Int) > IntKind.i64.max := by
      rw [bs_size, bs_size]
      have : IntKind.i64.max = 9223372036854775807 := by decide
      simp only [maxLen] at hl
      omega
    simp only [eqGuard, binOp, Op.stringOp, h1, if_neg h2]
    simp
end
section
variable {P : Program} {B : Nat → Prop} {W : En} {Q : Exit → St → Prop} {st : St}
theorem aW.drawq {os : List Nat} {id n : Nat} {l : List Oper} {st' : St} (_ : st.objs.map (·.1) = os) (hm : P.follows .mixedOrders = true) (hsz : l.toArray.size = n) (h : aA P B W l.toArray os n (Array.replicate n false) (fun s => Le s st') st) (hn : Q .normal st') : aW P B W (.region id l.toArray true) Q st := aW.draw hm hsz h hn
end
end Go.Proofs.Ytmkpgcahmbancaa.Ab
