/- What is proved: the steps of single operations on abstract states: moves, boxes, loads, stores, fields, elements.
   Conditions: none beyond those that each lemma names. -/
import Derived.Test.YtmkpgcahmbancaaAbs2
namespace Go.Proofs.Ytmkpgcahmbancaa.Ab
set_option linter.unusedSimpArgs false
set_option linter.unusedVariables false
open Go.RowKit

theorem upds_eq (st : St) (upd : List (Nat × Nat × Ob)) : st.upds upd = { st with objs := updl st.objs upd } := rfl
def kills (ks : List (Nat × Nat)) : List (Nat × Nat × Ob) := ks.map fun p => (p.1, p.2 + 1, Ob.gone)
theorem mem_kills {ks : List (Nat × Nat)} {j e : Nat} (h : (j, e) ∈ ks) : (j, e + 1, Ob.gone) ∈ kills ks := List.mem_map.2 ⟨(j, e), h, rfl⟩
theorem look_kills_other (ks : List (Nat × Nat)) : ∀ (objs : List (Nat × Nat × Ob)) (i : Nat), (∀ e, (i, e) ∉ ks) → look (updl objs (kills ks)) i = look objs i := by
  induction ks with
  | nil => intro objs i _; rfl
  | cons p r ih =>
    intro objs i h
    show look (updl (updo objs p.1 (p.2 + 1) .gone) (kills r)) i = _
    rw [ih _ _ fun e he => h e (by simp [he]), look_updo, if_neg]
    rintro rfl
    exact h p.2 (by simp)
theorem look_kills_mem (ks : List (Nat × Nat)) : ∀ (objs : List (Nat × Nat × Ob)) (i e : Nat), (i, e) ∈ ks → (∀ e', (i, e') ∈ ks → e' = e) → look (updl objs (kills ks)) i = some (e + 1, .gone) := by
  induction ks with
  | nil => intro objs i e h; cases h
  | cons p r ih =>
    intro objs i e h hu
    show look (updl (updo objs p.1 (p.2 + 1) .gone) (kills r)) i = _
    by_cases hr : ∃ e', (i, e') ∈ r
    · obtain ⟨e', he'⟩ := hr
      have h1 := hu e' (by simp [he'])
      subst h1
      exact ih _ _ _ he' fun e'' h'' => hu e'' (by simp [h''])
    · rw [look_kills_other _ _ _ fun e' he' => hr ⟨e', he'⟩, look_updo]
      rcases List.mem_cons.1 h with rfl | h
      · simp
      · exact absurd ⟨e, h⟩ hr

section
variable {P : Program} {B : Nat → Prop} {W : En} {o : Oper} {st : St} {KE : V → List (Nat × Nat × Ob) → Prop}
/-- An operation that changes or lays one object; others may go. -/
theorem OpS.chg {i ep : Nat} {ob : Ob} {v : V} {ks : List (Nat × Nat)} (hK : KE v ((i, ep, ob) :: kills ks)) (hks : ∀ x e, (x, e) ∈ ks → x ≠ i ∧ ∃ b, look st.objs x = some (e, b))
    (h : ∀ a w pl F, SimW P B W st a w pl F → ∃ nx w' v' F' u, (execOp a.eval o).run P w = .ok nx w' ∧ (nx = .value u ∨ nx = .skip ∧ u = undef) ∧ Kp W w w' ∧ (∀ b, b < w.heap.size → (∀ x, look st.objs i = some x → ¬ F i b) → w'.heap[b]? = w.heap[b]?) ∧
      (∀ ep0 ob0, look st.objs i = some (ep0, ob0) → ep0 < ep ∨ (ep0 = ep ∧ v' = pl i ∧ ob.isRow = ob0.isRow ∧ esz P ob = esz P ob0)) ∧ (look st.objs i = none → 0 < ep) ∧
      (∀ b, F' b → (w.heap.size ≤ b ∧ b < w'.heap.size) ∨ Gone (look st.objs) F i (fun j => ∃ e, (j, e) ∈ ks) b) ∧
      (∀ lk' pl' Fr', Goes P w w' (look st.objs) lk' pl pl' (Free B W.o (look st.objs) F w) Fr' → (∀ b, Gone (look st.objs) F i (fun j => ∃ e, (j, e) ∈ ks) b → ¬ F' b → Fr' b) → lk' i = some (ep, ob) → pl' i = v' →
        ObR P w' (C0 P w' lk' pl' Fr') (Rd P w' Fr') v' F' ob ∧ C2 P w' lk' pl' Fr' v u)) : OpS P B W o st KE := by
  intro a w pl F hs next Q hn
  obtain ⟨nx, w', v', F', u, hr, hnx, hb, hch, hep, hne, hF, hv⟩ := h a w pl F hs
  have hl1 : ∀ j, look (updl st.objs ((i, ep, ob) :: kills ks)) j = look (updl (updo st.objs i ep ob) (kills ks)) j := fun _ => rfl
  have hli : look (updl st.objs ((i, ep, ob) :: kills ks)) i = some (ep, ob) := by
    rw [hl1, look_kills_other _ _ _ fun e he => (hks i e he).1 rfl, look_updo, if_pos rfl]
  obtain ⟨pl', F'', h1, h2, h3, h3', h3s⟩ := hs.change (o := i) (ep := ep) (ob := ob) (v' := v') (F' := F') (K := fun j => ∃ e, (j, e) ∈ ks) (objs' := updl st.objs ((i, ep, ob) :: kills ks)) hb hch hli
    (fun j hj hk => by rw [hl1, look_kills_other _ _ _ fun e he => hk ⟨e, he⟩, look_updo, if_neg (Ne.symm hj)])
    (fun j hj hk => by
      obtain ⟨e, he⟩ := hk
      obtain ⟨_, b, hb⟩ := hks j e he
      refine ⟨e, b, hb, ?_⟩
      rw [hl1]
      refine look_kills_mem ks _ _ _ he fun e' he' => ?_
      obtain ⟨_, b', hb'⟩ := hks j e' he'
      rw [hb] at hb'
      cases hb'
      rfl) hep hne hF (fun lk' pl' Fr' g hg e1 e2 => (hv lk' pl' Fr' g hg e1 e2).1)
  have h4 := h1.put (hv _ _ _ h3 h3' hli h2).2 o.dst
  rw [← upds_eq] at h4
  have hkp : Keeps B W st.objs ((st.upds ((i, ep, ob) :: kills ks)).put o.dst v).objs ((i, ep, ob) :: kills ks) w w' F F'' := by
    rw [put_objs]
    refine ⟨h3.more, h3.heap, fun j x b hj hno hf => ?_⟩
    have hji : j ≠ i := fun e => hno ep ob (by rw [e]; simp)
    have hjk : ¬ ∃ e, (j, e) ∈ ks := fun ⟨e, he⟩ => hno (e + 1) .gone (List.mem_cons_of_mem _ (mem_kills he))
    exact ⟨by rw [h3s j hji hjk]; exact hf, hch b (hs.range j x b hj hf).2 fun y hy hf' => hs.apart j i _ _ b hji hj hy hf hf'⟩
  rcases hnx with rfl | ⟨rfl, rfl⟩
  · exact wp_val hr (hn _ _ _ _ _ _ h4 hkp hK)
  · exact wp_unit hr (hn _ _ _ _ _ _ h4 hkp hK)
theorem OpS.mono {KE' : V → List (Nat × Nat × Ob) → Prop} (h : OpS P B W o st KE) (hK : ∀ v u, KE v u → KE' v u) : OpS P B W o st KE' :=
  fun a w pl F hs next Q hn => h a w pl F hs next Q fun v upd a' w' pl' F' h1 h2 h3 => hn v upd a' w' pl' F' h1 h2 (hK _ _ h3)

theorem OpS.move {x : Operand} (ho : o.op = .move x ∨ o.op = .assign x) (hK : KE (st.ev x) []) : OpS P B W o st KE :=
  OpS.pure_ hK fun a w pl F hs => ⟨a.eval x, by rcases ho with ho | ho <;> (unfold execOp; rw [ho]; rfl), hs.ev x⟩
theorem OpS.mv {x : Operand} {v : V} (ho : o.op = .move x ∨ o.op = .assign x) (hx : st.ev x = v) (hK : KE v []) : OpS P B W o st KE := OpS.move ho (by rw [hx]; exact hK)
theorem OpS.pick {c x y : Operand} {t : Bool} (ho : o.op = .pick c x y) (hc : st.ev c = .t (.bool t)) (hK : KE (if t then st.ev x else st.ev y) []) : OpS P B W o st KE :=
  OpS.pure_ hK fun a w pl F hs => by
    have h := hs.ev c
    rw [hc] at h
    cases h' : a.eval c <;> rw [h'] at h <;> cases h
    refine ⟨if t then a.eval x else a.eval y, by unfold execOp; rw [ho]; simp [h', asBool], ?_⟩
    cases t
    · exact hs.ev y
    · exact hs.ev x

theorem OpS.pick_t {c x y : Operand} {t : Bool} {v : V} (ho : o.op = .pick c x y) (hc : st.ev c = .t (.bool t)) (ht : t = true) (hx : st.ev x = v) (hK : KE v []) : OpS P B W o st KE := OpS.pick ho hc (by rw [if_pos ht, hx]; exact hK)
theorem OpS.pick_f {c x y : Operand} {t : Bool} {v : V} (ho : o.op = .pick c x y) (hc : st.ev c = .t (.bool t)) (ht : t = false) (hx : st.ev y = v) (hK : KE v []) : OpS P B W o st KE := OpS.pick ho hc (by rw [if_neg (by simp [ht]), hx]; exact hK)
/-! ### New boxes -/
theorem below_alloc (w : World) (ob : Obj) : Below w.heap.size w (w.alloc ob) := (Below.refl _ _).alloc (Nat.le_refl _) _
theorem below_new {w : World} (hb : Kp W W.toWorld w) (ob : Obj) : Kp W w (w.alloc ob) := Below.kp (below_alloc w ob) hb.size
theorem nep_lt {l : Option (Nat × Ob)} {ep0 : Nat} {ob0 : Ob} (h : l = some (ep0, ob0)) : ep0 < nep l := by subst h; exact Nat.lt_succ_self _
theorem OpS.newbox {site ep : Nat} {ty : TypeId} {cs : List V} (hep : nep (look st.objs site) = ep) (hK : KE (.ptr site ep 0 0) [(site, ep, .box ty cs)])
    (h : ∀ a w pl F, SimW P B W st a w pl F → ∃ us : List Value, (execOp a.eval o).run P w = .ok (.value (.pointer (some ⟨w.heap.size, 0, none⟩))) (w.alloc (.cells us.toArray ty)) ∧ Pw (C0 P w (look st.objs) pl (Free B W.o (look st.objs) F w)) cs us) : OpS P B W o st KE := by
  subst hep
  refine OpS.chg (ks := []) (i := site) (ep := nep (look st.objs site)) hK (fun x e h => by cases h) fun a w pl F hs => ?_
  obtain ⟨us, hr, hp⟩ := h a w pl F hs
  refine ⟨_, _, .pointer (some ⟨w.heap.size, 0, none⟩), fun b => b = w.heap.size, _, hr, .inl rfl, below_new hs.below _, fun b hb _ => Below.heap_alloc w _ b hb, fun ep0 ob0 h0 => .inl (nep_lt h0), fun _ => nep_pos _, fun b hb => .inl (by subst hb; simp), fun lk' pl' Fr' g _ h1 h2 => ⟨⟨w.heap.size, us, rfl, fun _ => Iff.rfl, heap_alloc_new w _, hp.1, fun k x u hx hu => C0.goes g (hp.2 k x u hx hu)⟩, rfl, _, _, h1, Nat.le_refl _, fun _ => ⟨w.heap.size, 0, by rw [h2]; rfl, by simp⟩⟩⟩
theorem OpS.box {site ep : Nat} {e : TypeId} {x : Operand} {v : V} (ho : o.op = .box e x) (hd : o.dst = some site) (hx : st.ev x = v) (hs : (cellsV v).all V.sto = true) (hep : nep (look st.objs site) = ep) (hK : KE (.ptr site ep 0 0) [(site, ep, .box e (cellsV v))]) : OpS P B W o st KE := by
  subst hx
  exact OpS.newbox hep hK fun a w pl F h => by
    obtain ⟨us, h1, h2, _⟩ := ((h.ev x).c1 hs).cells hs
    refine ⟨us, ?_, h2⟩
    unfold execOp
    rw [ho]
    simp [Instr.box, newVar, newRow, h1]
theorem OpS.alloc {site ep : Nat} {e : TypeId} {y : Ty} {zs : List V} (ho : o.op = .alloc e) (hd : o.dst = some site) (hy : tinfo P e = some y) (hz : y.zero = some zs) (hep : nep (look st.objs site) = ep) (hK : KE (.ptr site ep 0 0) [(site, ep, .box e zs)]) : OpS P B W o st KE :=
  OpS.newbox hep hK fun a w pl F h => by
    obtain ⟨d, i, hd, hi, hk, hs, hb, hzz⟩ := tinfo_parts hy
    rw [hz] at hzz
    obtain ⟨z, hz1, hz2⟩ := Option.map_eq_some_iff.1 hzz.symm
    refine ⟨z.cells.toList, ?_, ?_⟩
    · unfold execOp
      rw [ho]
      simp [Instr.alloc, zeroValue, typeInfo, hi, hz1, newVar, newRow]
    · rw [← hz2]
      refine ⟨by simp, fun k x u hx hu => ?_⟩
      rw [List.getElem?_map, hu] at hx
      cases hx
      exact constV_ok u

/-! ### Loading -/
def loadV (ag : Bool) (n : Nat) (cs : List V) (off : Nat) : Option V := if ag then (if off + n ≤ cs.length then some (.agg ((cs.drop off).take n)) else none) else cs[off]?
theorem run_loadVar_t {t : TypeId} {y : Ty} (hy : tinfo P t = some y) {w : World} {lk : Nat → Option (Nat × Ob)} {pl : Nat → Value} {Fr : Nat → Prop} {cs : List V} {off : Nat} {v : V} (hv : loadV y.k.agg y.size cs off = some v) (ad : Addr)
    (hc : ∀ (j : Nat) (x : V), cs[off + j]? = some x → ∃ u, w.cell? (ad.add j) = some u ∧ C0 P w lk pl Fr x u) : ∃ u, (loadVar t ad).run P w = .ok u w ∧ C2 P w lk pl Fr v u := by
  unfold loadVar
  rw [Sem.run_bind, run_isAgg_t w hy, Result.andThen_ok]
  unfold loadV at hv
  cases hag : y.k.agg
  · rw [hag] at hv
    simp only [Bool.false_eq_true, if_false] at hv ⊢
    obtain ⟨u, h1, h2⟩ := hc 0 v (by simpa using hv)
    have h1' : w.cell? ad = some u := by simpa [Addr.add] using h1
    exact ⟨u, by rw [run_load, h1'], h2.c2⟩
  · rw [hag] at hv
    simp only [if_true] at hv ⊢
    split at hv
    · rename_i hle
      cases hv
      have hx : ∀ j, j < y.size → ∃ u, w.cell? (ad.add j) = some u ∧ ∀ x, cs[off + j]? = some x → C0 P w lk pl Fr x u := fun j hj => by
        have hlt : off + j < cs.length := by omega
        obtain ⟨u, h1, h2⟩ := hc j _ (List.getElem?_eq_getElem hlt)
        exact ⟨u, h1, fun x hx => by rw [List.getElem?_eq_getElem hlt] at hx; cases hx; exact h2⟩
      let f : Nat → Value := fun j => (w.cell? (ad.add j)).getD undef
      have hf : ∀ j, j < y.size → w.cell? (ad.add j) = some (f j) := fun j hj => by
        obtain ⟨u, h1, _⟩ := hx j hj
        show _ = some ((w.cell? (ad.add j)).getD undef)
        rw [h1]; rfl
      refine ⟨.agg ((List.range y.size).map f).toArray, ?_, ?_⟩
      · rw [Sem.run_bind, run_sizeOf_t w hy, Result.andThen_ok, Sem.run_bind, run_loadCells w ad y.size f hf, Result.andThen_ok]
        rfl
      · refine ⟨(List.range y.size).map f, rfl, by simp; omega, fun k x u h1 h2 => ?_⟩
        rw [List.getElem?_take] at h1
        split at h1
        · rename_i hk
          rw [List.getElem?_drop] at h1
          rw [List.getElem?_map, List.getElem?_range hk] at h2
          obtain ⟨u', h3, h4⟩ := hx k hk
          have : u = u' := by
            have h5 := hf k hk
            rw [h3] at h5
            cases h2
            exact (Option.some.inj h5).symm
          rw [this]
          exact h4 x h1
        · cases h1
    · cases hv
theorem exec_load {ty : TypeId} {x : Operand} {a : Act} {w : World} {ad : Addr} {u : Value} (ho : o.op = .load ty x) (hx : a.eval x = .pointer (some ad)) (hr : (loadVar ty ad).run P w = .ok u w) : (execOp a.eval o).run P w = .ok (.value u) w := by
  unfold execOp
  rw [ho]
  refine exec_value ?_
  rw [hx]
  simp [Instr.loadAt, Instr.sureAddr, hr]
theorem OpS.load_box {ty : TypeId} {x : Operand} {i ep off : Nat} {bt : TypeId} {cs : List V} {y : Ty} {v : V} (ho : o.op = .load ty x) (hx : st.ev x = .ptr i ep 0 off) (hl : look st.objs i = some (ep, .box bt cs)) (hy : tinfo P ty = some y)
    (hv : loadV y.k.agg y.size cs off = some v) (hK : KE v []) : OpS P B W o st KE :=
  OpS.pure_ hK fun a w pl F hs => by
    have h1 := hs.ev x
    rw [hx] at h1
    obtain ⟨_, ep', ob, h2, h3, h4⟩ : C0 P w (look st.objs) pl (Free B W.o (look st.objs) F w) (.ptr i ep 0 off) (a.eval x) := h1
    rw [hl] at h2
    cases h2
    obtain ⟨g, bb, hg, hu⟩ := h4 rfl
    obtain ⟨g', us, h5, h6, h7, h8⟩ := hs.objs i _ _ hl
    rw [h5] at hg
    simp only [blk, Option.some.injEq, Prod.mk.injEq] at hg
    obtain ⟨rfl, rfl⟩ := hg
    obtain ⟨u, h9, h10⟩ := run_loadVar_t hy hv ⟨g', 0 + (0 * esz P (.box bt cs) + off), none⟩ (lk := look st.objs) (pl := pl) (Fr := Free B W.o (look st.objs) F w) (w := w) fun j z hz => by
      obtain ⟨u, hu1, hu2⟩ := Pw.at_ (R := C0 P w (look st.objs) pl (Free B W.o (look st.objs) F w)) ⟨h8.1, h8.2⟩ hz
      refine ⟨u, ?_, hu2⟩
      rw [add_lit0, cell_of_row w g' _ _ _ _ h7]
      simpa using hu1
    exact ⟨u, exec_load ho hu h9, h10⟩
theorem OpS.load_rptr {ty : TypeId} {x : Operand} {off : Nat} {cs : List T} {y : Ty} {v : V} (ho : o.op = .load ty x) (hx : st.ev x = .rptr cs off) (hy : tinfo P ty = some y)
    (hv : loadV y.k.agg y.size (cs.map .t) off = some v) (hK : KE v []) : OpS P B W o st KE :=
  OpS.pure_ hK fun a w pl F hs => by
    have h1 := hs.ev x
    rw [hx] at h1
    obtain ⟨ad, h2, h3⟩ : C0 P w (look st.objs) pl (Free B W.o (look st.objs) F w) (.rptr cs off) (a.eval x) := h1
    obtain ⟨u, h9, h10⟩ := run_loadVar_t hy hv ad (lk := look st.objs) (pl := pl) (Fr := Free B W.o (look st.objs) F w) (w := w) fun j z hz => by
      rw [List.getElem?_map, Option.map_eq_some_iff] at hz
      obtain ⟨q, hq, rfl⟩ := hz
      obtain ⟨_, u, hu, hr⟩ := h3 j q hq
      exact ⟨u, hu, hr⟩
    exact ⟨u, exec_load ho h2 h9, h10⟩

/-! ### Storing into a box -/
theorem setRow_other (w : World) (g : Nat) (cs : Array Value) (b : Nat) (h : b ≠ g) : (w.setRow g cs).heap[b]? = w.heap[b]? := by
  simp [World.setRow, Array.getElem?_modify, Ne.symm h]
theorem below_setRow {W : En} {w : World} {g : Nat} (hg : W.o g) (cs : Array Value) : Kp W w (w.setRow g cs) :=
  ⟨rfl, rfl, rfl, by simp, fun k hk => setRow_other w g cs k fun e => hk (by rw [e]; exact hg)⟩
theorem exec_store {ty : TypeId} {x z : Operand} {a : Act} {w w' : World} {ad : Addr} {y : Ty} (ho : o.op = .store ty x z) (hy : tinfo P ty = some y) (hx : a.eval x = .pointer (some ad)) (hn : (a.eval z).cells.size = y.size) (hr : (storeCells ad (a.eval z).cells.toList).run P w = .ok () w') : (execOp a.eval o).run P w = .ok .skip w' := by
  unfold execOp
  rw [ho]
  simp [Instr.storeAt, Instr.sureAddr, hx, storeVar, run_sizeOf_t w hy, hn, hr]
theorem OpS.store_box {ty : TypeId} {x z : Operand} {i ep off : Nat} {bt : TypeId} {cs : List V} {y : Ty} (ho : o.op = .store ty x z) (hx : st.ev x = .ptr i ep 0 off) (hl : look st.objs i = some (ep, .box bt cs)) (hy : tinfo P ty = some y)
    {v : V} {cs' : List V} (hz : st.ev z = v) (hs : (cellsV v).all V.sto = true) (hn : (cellsV v).length = y.size) (hle : Nat.ble (off + (cellsV v).length) cs.length = true) (hcs : setRange cs off (cellsV v) = cs') (hK : KE (.lit undef) [(i, ep, .box bt cs')]) : OpS P B W o st KE := by
  subst hz hcs
  have hle := Nat.le_of_ble_eq_true hle
  refine OpS.chg (ks := []) hK (fun x e h => by cases h) fun a w pl F h => ?_
  have h1 := h.ev x
  rw [hx] at h1
  obtain ⟨_, ep', ob, h2, h3, h4⟩ : C0 P w (look st.objs) pl (Free B W.o (look st.objs) F w) (.ptr i ep 0 off) (a.eval x) := h1
  rw [hl] at h2
  cases h2
  obtain ⟨g, bb, hg, hu⟩ := h4 rfl
  obtain ⟨g', us, h5, h6, h7, h8⟩ := h.objs i _ _ hl
  rw [h5] at hg
  simp only [blk, Option.some.injEq, Prod.mk.injEq] at hg
  obtain ⟨rfl, rfl⟩ := hg
  simp only [Nat.zero_mul, Nat.zero_add] at hu
  obtain ⟨vs, hv1, hv2, hv3⟩ := ((h.ev z).c1 hs).cells hs
  have hlen : vs.length = (cellsV (st.ev z)).length := hv2.1
  have h8' : us.length = cs.length := h8.1
  have hrun := run_storeCells_at P g' off bt vs 0 us.toArray w h7 (by simp; omega) hv3
  have hN := (h.range i _ g' hl ((h6 g').2 rfl)).1
  refine ⟨_, _, pl i, F i, undef, exec_store ho hy hu (by rw [hv1]; simp; omega) (by rw [hv1]; simpa using hrun), .inr ⟨rfl, rfl⟩, below_setRow hN _, fun b hb hf => setRow_other w g' _ b fun e => hf _ hl ((h6 b).2 e), fun ep0 ob0 h0 => ?_, fun h0 => (by rw [hl] at h0; cases h0), fun b hb => .inr (.inl ⟨_, hl, hb⟩), fun lk' pl' Fr' gg _ _ _ => ⟨?_, rfl⟩⟩
  · rw [hl] at h0; cases h0; exact .inr ⟨rfl, rfl, rfl, rfl⟩
  · have hp := Pw.setRange (R := C0 P w (look st.objs) pl (Free B W.o (look st.objs) F w)) ⟨h8.1, h8.2⟩ hv2 off
    refine ⟨g', setRange us off vs, h5, h6, ?_, hp.1, fun k x u hx hu => C0.goes gg (hp.2 k x u hx hu)⟩
    have := setRow_heap w g' us.toArray (setRange us off vs).toArray bt (0, 0) h7
    simpa [Ab.setRange] using this

/-! ### Fields -/
def fldOf (y : Ty) (f : Nat) : Option (Nat × Nat) := match y.k with | .struct fs => (match fs[f]? with | some (o, n) => if n = 0 then none else some (o, n) | none => none) | _ => none
theorem fld_t {s : TypeId} {y : Ty} {f fo n : Nat} (hy : tinfo P s = some y) (hf : fldOf y f = some (fo, n)) : ∃ gs fd, P.underlying s = some (.struct gs) ∧ gs[f]? = some fd ∧ fd.offset = fo ∧ P.cellsOf fd.type = n ∧ n ≠ 0 := by
  unfold fldOf at hf
  split at hf
  · rename_i fs hk
    obtain ⟨gs, h1, h2⟩ := struct_t hy hk
    split at hf
    · rename_i o n' ho
      split at hf
      · cases hf
      · rename_i hn
        cases hf
        subst h2
        rw [List.getElem?_map, Option.map_eq_some_iff] at ho
        obtain ⟨fd, h3, h4⟩ := ho
        simp only [Prod.mk.injEq] at h4
        exact ⟨gs, fd, h1, by simpa using h3, h4.1, h4.2, hn⟩
    · cases hf
  · cases hf
theorem exec_fieldAddr {s : TypeId} {x : Operand} {f fo n : Nat} {y : Ty} {a : Act} {w : World} {ad : Addr} (ho : o.op = .fieldAddr s x f) (hy : tinfo P s = some y) (hf : fldOf y f = some (fo, n)) (hx : a.eval x = .pointer (some ad)) :
    (execOp a.eval o).run P w = .ok (.value (.pointer (some (ad.add fo)))) w := by
  obtain ⟨gs, fd, h1, h2, h3, h4, h5⟩ := fld_t hy hf
  have hsz : (sizeOf fd.type).run P w = .ok n w := by
    subst h4
    unfold Program.cellsOf at h5 ⊢
    unfold sizeOf typeInfo
    cases hi : P.info? fd.type with
    | none => rw [hi] at h5; exact absurd rfl h5
    | some i => simp [hi]
  unfold execOp
  rw [ho]
  refine exec_value ?_
  rw [hx]
  simp [Instr.fieldAt, run_underlying h1, h2, Instr.sureAddr, fieldPlace, hsz, h5, h3]
theorem OpS.field_ptr {s : TypeId} {x : Operand} {f fo n i ep k off : Nat} {y : Ty} (ho : o.op = .fieldAddr s x f) (hx : st.ev x = .ptr i ep k off) (hy : tinfo P s = some y) (hf : fldOf y f = some (fo, n))
    {e : Nat} {ob : Ob} (hl : look st.objs i = some (e, ob)) (he : e = ep) (hK : KE (.ptr i ep k (off + fo)) []) : OpS P B W o st KE :=
  OpS.pure_ hK fun a w pl F hs => by
    have h1 := hs.ev x
    rw [hx] at h1
    obtain ⟨_, ep', ob', h2, h3, h4⟩ : C0 P w (look st.objs) pl (Free B W.o (look st.objs) F w) (.ptr i ep k off) (a.eval x) := h1
    rw [hl] at h2
    cases h2
    obtain ⟨g, bb, hg, hu⟩ := h4 he.symm
    refine ⟨_, exec_fieldAddr ho hy hf hu, rfl, _, _, hl, by omega, fun _ => ⟨g, bb, hg, ?_⟩⟩
    rw [add_lit0]
    simp [Nat.add_assoc]
theorem OpS.field_rptr {s : TypeId} {x : Operand} {f fo n off : Nat} {cs : List T} {y : Ty} (ho : o.op = .fieldAddr s x f) (hx : st.ev x = .rptr cs off) (hy : tinfo P s = some y) (hf : fldOf y f = some (fo, n)) (hK : KE (.rptr cs (off + fo)) []) : OpS P B W o st KE :=
  OpS.pure_ hK fun a w pl F hs => by
    have h1 := hs.ev x
    rw [hx] at h1
    obtain ⟨ad, h2, h3⟩ : C0 P w (look st.objs) pl (Free B W.o (look st.objs) F w) (.rptr cs off) (a.eval x) := h1
    refine ⟨_, exec_fieldAddr ho hy hf h2, _, rfl, fun j z hz => ?_⟩
    obtain ⟨h4, u, h5, h6⟩ := h3 (fo + j) z (by rw [← Nat.add_assoc]; exact hz)
    exact ⟨by rw [block_of_add]; exact h4, u, by rw [add_of_add]; exact h5, h6⟩
end
end Go.Proofs.Ytmkpgcahmbancaa.Ab
