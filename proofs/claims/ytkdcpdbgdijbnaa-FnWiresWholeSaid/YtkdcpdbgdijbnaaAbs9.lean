/- What is proved: the steps of single operations on abstract states: slice literals, make, append.
   Conditions: none beyond those that each lemma names. -/
import Derived.Test.YtkdcpdbgdijbnaaAbs8
namespace Go.Proofs.Ytkdcpdbgdijbnaa.Ab
open Go.RowKit Go.Lib

section
variable {P : Program} {B : Nat → Prop} {W : En} {o : Oper} {st : St} {KE : V → List (Nat × Nat × Ob) → Prop}
/-- A new row out of converted cells. -/
theorem OpS.newrow {site ep e : Nat} {fl d : Bool} {els : List (List T)} {ks : List (Nat × Nat)} (hep : nep (look st.objs site) = ep) (hks : ∀ x e, (x, e) ∈ ks → x ≠ site) (hu : ∀ x ∈ els, x.length = P.cellsOf e) (hfl : fl = true → ∀ x ∈ els.flatten, x.flat = true) (hK : KE (.hnd site ep) ((site, ep, .row fl d e els) :: kills ks))
    (h : ∀ a w pl F, SimW P B W st a w pl F → ∃ (us : List Value) (u : Value) (w' : World), (execOp a.eval o).run P w = .ok (.value u) w' ∧ Below w.heap.size w w' ∧ OwnsR w' e (P.cellsOf e) u els.length us ∧ (∀ b, u.ownBlock = some b → w.heap.size ≤ b ∧ b < w'.heap.size) ∧ Cv P B W st w F els.flatten us ks d) : OpS P B W o st KE := by
  subst hep
  have hlive : ∀ a w pl F, SimW P B W st a w pl F → ∀ x e, (x, e) ∈ ks → ∃ b, look st.objs x = some (e, b) := fun a w pl F hs => by
    obtain ⟨us, u, w', _, _, _, _, hc⟩ := h a w pl F hs
    exact hc.live
  intro a w pl0 F0 hs0 next Q hn
  refine OpS.chg (P := P) (B := B) (W := W) (o := o) (st := st) (KE := KE) (ks := ks) (i := site) (ep := nep (look st.objs site)) hK (fun x e hx => ⟨hks x e hx, hlive a w pl0 F0 hs0 x e hx⟩) (fun a w pl F hs => ?_) a w pl0 F0 hs0 next Q hn
  obtain ⟨us, u, w', hr, hb, hown, htop, hc⟩ := h a w pl F hs
  have hown' := hown
  have hone : u.oneCell' = true := by obtain ⟨A, c, rfl, _⟩ := ownsRow_slice hown; rfl
  have hKlt : ∀ o e y b, (o, e) ∈ ks → look st.objs o = some y → F o b → b < w.heap.size := fun o e y b _ hl hf => (hs.range o y b hl hf).2
  have hkeep : ∀ b, b < w.heap.size → w'.heap[b]? = w.heap[b]? := fun b hlt => hb.block b hlt
  cases d with
  | false =>
    refine ⟨_, w', u, fun b => u.ownBlock = some b, u, hr, .inl rfl, Below.kp hb hs.below.size, fun b hlt _ => hkeep b hlt, fun ep0 ob0 h0 => .inl (nep_lt h0), fun _ => nep_pos _, fun b hb => .inl (htop b hb), fun lk' pl' Fr' g hg e1 e2 => ⟨?_, hone, _, _, e1, Nat.le_refl _, fun _ => ⟨rfl, e2.symm⟩⟩⟩
    refine mk_row hown' hu hfl hc.len.symm (fun _ => ⟨fun k x v hx hv => (hc.rd k x v hx hv).mono (fun b hb => ?_) fun b hb => ?_, fun b => Iff.rfl⟩) fun h => by cases h
    · rcases hb with hb | ⟨i, e', y, h1, h2, h3⟩
      · exact g.more b hb
      · refine hg b (.inr ⟨i, y, hks i e' h1, ⟨e', h1⟩, h2, h3⟩) fun ht => ?_
        have := (htop b ht).1
        have := hKlt i e' y b h1 h2 h3
        omega
    · rcases hb with hb | ⟨i, e', y, h1, h2, h3⟩
      · exact hkeep b hb.2.1
      · exact hkeep b (hKlt i e' y b h1 h2 h3)
  | true =>
    obtain ⟨fs, g1, g2, g3⟩ := hc.own rfl
    have hfs : ∀ k b, fs k b → b < w.heap.size := fun k b hf => by
      obtain ⟨i, e', y, h1, h2, h3⟩ := g2 k b hf
      exact hKlt i e' y b h1 h2 h3
    refine ⟨_, w', u, fun b => u.ownBlock = some b ∨ ∃ k, fs k b, u, hr, .inl rfl, Below.kp hb hs.below.size, fun b hlt _ => hkeep b hlt, fun ep0 ob0 h0 => .inl (nep_lt h0), fun _ => nep_pos _, fun b hb => ?_, fun lk' pl' Fr' g hg e1 e2 => ⟨?_, hone, _, _, e1, Nat.le_refl _, fun _ => ⟨rfl, e2.symm⟩⟩⟩
    · rcases hb with hb | ⟨k, hk⟩
      · exact .inl (htop b hb)
      · obtain ⟨i, e', y, h1, h2, h3⟩ := g2 k b hk
        exact .inr (.inr ⟨i, y, hks i e' h1, ⟨e', h1⟩, h2, h3⟩)
    · refine mk_row hown' hu hfl hc.len.symm (fun h => by cases h) fun _ => ⟨fs, fun k x v hx hv => (g1 k x v hx hv).keep fun b hb => hkeep b (hfs k b hb), g3, fun k b hb ht => ?_, fun b => Iff.rfl⟩
      have := (htop b ht).1
      have := hfs k b hb
      omega
theorem cv_flat {w : World} {F : Nat → Nat → Prop} {ts : List T} {us : List Value} (hp : Pw (Rd P w (Free B W.o (look st.objs) F w)) ts us) (hf : ∀ x ∈ ts, x.flat = true) (d : Bool) : Cv P B W st w F ts us [] d :=
  ⟨hp.1, fun u hu => by
    obtain ⟨k, hk, rfl⟩ := List.getElem_of_mem hu
    have hlt : k < ts.length := by rw [← hp.1]; exact hk
    exact (hp.2 k _ _ (List.getElem?_eq_getElem hlt) (List.getElem?_eq_getElem hk)).one, fun k x u hx hu => (hp.2 k x u hx hu).mono (fun b hb => .inl hb) fun _ _ => rfl,
    fun _ => ⟨fun _ _ => False, fun k x u hx hu => .flat (hf _ (List.mem_of_getElem? hx)) ((hp.2 k x u hx hu).flat (hf _ (List.mem_of_getElem? hx))) fun _ h => h, fun _ _ h => h.elim, fun _ _ _ _ h => h.elim⟩, fun o e h => (by cases h)⟩
theorem cv_shared {w : World} {F : Nat → Nat → Prop} {ts : List T} {us : List Value} (hp : Pw (Rd P w (Free B W.o (look st.objs) F w)) ts us) : Cv P B W st w F ts us [] false :=
  ⟨hp.1, fun u hu => by
    obtain ⟨k, hk, rfl⟩ := List.getElem_of_mem hu
    have hlt : k < ts.length := by rw [← hp.1]; exact hk
    exact (hp.2 k _ _ (List.getElem?_eq_getElem hlt) (List.getElem?_eq_getElem hk)).one, fun k x u hx hu => (hp.2 k x u hx hu).mono (fun b hb => .inl hb) fun _ _ => rfl, fun h => (by cases h), fun o e h => (by cases h)⟩

/-! ### Slice literals -/
theorem OpS.buildSlice {t : TypeId} {len : Nat} {parts : Array (Nat × Operand)} {xs : List Operand} {y ye : Ty} {e es eb site ep : Nat} {zs : List V} {ts : List T} {ks : List (Nat × Nat)} {d fl : Bool} {els : List (List T)} {vs : List V}
    (ho : o.op = .buildSlice t len parts) (hd : o.dst = some site) (hparts : parts.toList = (xs.zipIdx 0).map fun p => (p.2, p.1)) (hlen : xs.length = len) (hy : tinfo P t = some y) (hk : y.k = .slice e es eb) (hye : tinfo P e = some ye) (hz : ye.zero = some zs) (hzl : zs.length = es) (hes : 0 < es) (hsm : len * es ≤ 16777216)
    (hvs : xs.map st.ev = vs) (hsto : vs.all (fun v => (cellsV v).all V.sto && decide ((cellsV v).length = es)) = true) (hcv : cvt (look st.objs) (vs.flatMap cellsV) = some (ts, ks, d)) (hnd : (ks.map (·.1)).Nodup) (hks : ∀ x e, (x, e) ∈ ks → x ≠ site)
    (hel : els.flatten = ts) (hell : els.length = len) (hu : ∀ x ∈ els, x.length = es) (hfl : ts.all T.flat = fl) (hep : nep (look st.objs site) = ep) (hK : KE (.hnd site ep) ((site, ep, .row fl d e els) :: kills ks)) : OpS P B W o st KE := by
  obtain ⟨ht, hes', heb⟩ := slice_t hy hk
  have hsto' : ∀ v ∈ vs, (cellsV v).all V.sto = true ∧ (cellsV v).length = es := fun v hv => by
    have := List.all_eq_true.1 hsto v hv
    rw [Bool.and_eq_true] at this
    exact ⟨this.1, of_decide_eq_true this.2⟩
  refine OpS.newrow hep hks (by rw [hes']; exact hu) (fun h => by rw [← hfl] at h; rw [hel]; exact List.all_eq_true.1 h) hK fun a w pl F hs => ?_
  obtain ⟨de, i, hue, hi, _, hsz, hby, hzero⟩ := tinfo_parts hye
  have hsi : i.size = es := by rw [← hes']; simp [Program.cellsOf, hi]
  rw [hz] at hzero
  obtain ⟨z, hz1, hz2⟩ := Option.map_eq_some_iff.1 hzero.symm
  have hzs : z.cells.size = es := by rw [← hzl, ← hz2]; simp
  -- the values' cells
  have hcells : ∀ (l : List Operand), (∀ x ∈ l, st.ev x ∈ vs) → ∃ us : List Value, (l.map a.eval).flatMap (fun v => v.cells.toList) = us ∧ Pw (C0 P w (look st.objs) pl (Free B W.o (look st.objs) F w)) ((l.map st.ev).flatMap cellsV) us ∧ ∀ v ∈ l.map a.eval, v.cells.size = es := by
    intro l
    induction l with
    | nil => intro _; exact ⟨[], rfl, Pw.nil, by simp⟩
    | cons x l ih =>
      intro hl
      obtain ⟨us, h1, h2, h3⟩ := ih fun y hy => hl y (by simp [hy])
      obtain ⟨g1, g2⟩ := hsto' (st.ev x) (hl x (by simp))
      obtain ⟨us', h4, h5, h6⟩ := ((hs.ev x).c1 g1).cells g1
      have hlen5 : us'.length = es := by rw [h5.1, g2]
      refine ⟨us' ++ us, by simp only [List.map_cons, List.flatMap_cons, h1, h4], by simpa [List.map_cons, List.flatMap_cons] using h5.append h2, fun v hv => ?_⟩
      rw [List.map_cons] at hv
      rcases List.mem_cons.1 hv with rfl | hv
      · rw [h4]; simpa using hlen5
      · exact h3 v hv
  obtain ⟨us, hu1, hu2, hu3⟩ := hcells xs fun x hx => by rw [← hvs]; exact List.mem_map_of_mem hx
  rw [hvs] at hu2
  have hc := hs.cvt hu2 hcv hnd
  have hulen : us.length = len * es := by
    rw [hc.len, ← hel, flatten_len hu, hell]
  have hpl : (parts.map fun x => (x.1, a.eval x.2)).toList = ((xs.map a.eval).zipIdx 0).map fun p => (p.2, p.1) := by
    rw [Array.toList_map, hparts, List.map_map, List.zipIdx_map, List.map_map]
    rfl
  by_cases hl0 : len = 0
  · subst hl0
    have hx0 : xs = [] := List.eq_nil_of_length_eq_zero hlen
    subst hx0
    have hus : us = [] := List.eq_nil_of_length_eq_zero (by simpa using hulen)
    subst hus
    refine ⟨[], .slice (some ⟨w.heap.size, 0, none⟩) 0 0, w.alloc (.cells #[] e), ?_, below_alloc w _, ?_, fun b hb => (by cases hb; simp), by rw [hel]; exact hc⟩
    · unfold execOp
      rw [ho]
      refine exec_value ?_
      have hp0 : parts = #[] := by
        have : parts.toList = [] := hparts
        simpa using this
      subst hp0
      simp [Instr.buildSlice, run_underlying ht, sizeOf, typeInfo, hi, Instr.fill, newRow]
      congr 2
      exact Array.eq_empty_of_size_eq_zero (by simp)
    · rw [hell]
      exact ⟨by simp, .inr ⟨w.heap.size, 0, 0, #[], (0, 0), rfl, heap_alloc_new w _, .inl rfl, Nat.le_refl _, by simp [maxLen], by simp, by simp⟩⟩
  · have hfill := Great.fill_whole hes (xs.map a.eval) ((Array.range (len * i.size)).map (z.cells[· % z.cells.size]!)) hu3 (by simp [hsi, hlen])
    rw [← hpl, hu1] at hfill
    rw [← hsi] at hfill
    refine ⟨us, .slice (some ⟨w.heap.size, 0, none⟩) len len, w.alloc (.cells us.toArray e), ?_, below_alloc w _, ?_, fun b hb => (by cases hb; simp), by rw [hel]; exact hc⟩
    · unfold execOp
      rw [ho]
      refine exec_value ?_
      exact run_buildSlice w t e len _ us.toArray i z ht hi hz1 (by rw [hsi]; omega) (by rw [hsi]; exact Nat.ne_of_gt (Nat.mul_pos (by omega) hes)) hfill
    · rw [hell, hes']
      have hlm : len ≤ maxLen := by
        have : len ≤ len * es := Nat.le_mul_of_pos_right _ hes
        have hm : (16777216 : Nat) ≤ maxLen := by decide
        omega
      exact ⟨hulen, .inr ⟨w.heap.size, 0, len, us.toArray, (0, 0), rfl, heap_alloc_new w _, .inl rfl, Nat.le_refl _, hlm, by simp [hulen], by rw [← hulen]; simp⟩⟩
/-! ### Append -/
/-- The source of an append, read. -/
def SrcOk (P : Program) (B : Nat → Prop) (W : En) (st : St) (a : Act) (w : World) (F : Nat → Nat → Prop) (x : Operand) (es : Nat) (els : List (List T)) (ks : List (Nat × Nat)) (d : Bool) : Prop :=
  ∃ us : List Value, (Builtin.lenOf (a.eval x)).run P w = .ok els.length w ∧ (∀ k, (Builtin.firstCells es els.length (a.eval x)).run P (w.drewN k) = .ok us.toArray (w.drewN k)) ∧ els.length ≤ maxLen ∧ Cv P B W st w F els.flatten us ks d
theorem firstCells_mem {w : World} {B : Nat → Prop} {A : Option Addr} {n c es : Nat} {us : List Value} (h : Mem w B A us) (hl : us.length = n * es) (k : Nat) : (Builtin.firstCells es n (.slice A n c)).run P (w.drewN k) = .ok us.toArray (w.drewN k) := by
  by_cases hn : us = []
  · subst hn
    cases A with
    | none => simp [Builtin.firstCells]
    | some ad =>
      have h0 : n * es = 0 := by simpa using hl.symm
      simp [Builtin.firstCells, h0, loadCells, loadCellsFrom]
  · obtain ⟨ad, rfl, _, hc⟩ := h hn
    exact run_firstCells_some (P := P) (w.drewN k) es n ad n c us hl hc
section
variable {a : Act} {w : World} {pl : Nat → Value} {F : Nat → Nat → Prop}
theorem SimW.src_lst (h : SimW P B W st a w pl F) {x : Operand} {fl : Bool} {e : TypeId} {els : List (List T)} (hx : st.ev x = .t (.lst fl e els)) : SrcOk P B W st a w F x (P.cellsOf e) els [] fl := by
  obtain ⟨A, c, us, h1, h2, h3, h4, h5, h6, h7, h8⟩ := h.lst_at hx
  have hl : us.length = els.length * P.cellsOf e := by rw [← h6, flatten_len h4]
  refine ⟨us, by rw [h1]; rfl, fun k => by rw [h1]; exact firstCells_mem h7 hl k, Nat.le_trans h2 h3, ?_⟩
  cases fl with
  | true => exact cv_flat ⟨h6.symm, h8⟩ (h5 rfl) _
  | false => exact cv_shared ⟨h6.symm, h8⟩
theorem SimW.src_nil (h : SimW P B W st a w pl F) {x : Operand} (hx : st.ev x = .t .nil) (es : Nat) : SrcOk P B W st a w F x es [] [] true := by
  have h1 := h.nil_at hx
  exact ⟨[], by rw [h1]; rfl, fun k => by rw [h1]; simp [Builtin.firstCells], by simp, cv_flat ⟨rfl, fun k x u h => by simp at h⟩ (by simp) _⟩
theorem SimW.src_str (h : SimW P B W st a w pl F) {x : Operand} {s : List UInt8} (hx : st.ev x = .t (.str s)) : SrcOk P B W st a w F x 1 (s.map fun c => [.int .u8 (c.toNat : Nat)]) [] true := by
  obtain ⟨h1, h2⟩ := h.str_at hx
  have hfl : (s.map fun c => [T.int .u8 (c.toNat : Nat)]).flatten = s.map fun c => T.int .u8 (c.toNat : Nat) := by
    induction s with
    | nil => rfl
    | cons c s ih =>
      rw [List.map_cons, List.flatten_cons, List.map_cons, List.singleton_append]
      congr 1
      clear hx h1 h2 ih
      induction s with
      | nil => rfl
      | cons c s ih => simp [ih]
  refine ⟨strCells (bs s), by rw [h1]; simp [Builtin.lenOf, bs_size], fun k => ?_, by simpa using h2, ?_⟩
  · rw [h1, List.length_map]
    have := run_firstCells_string (P := P) (w.drewN k) 1 (bs s)
    rw [bs_size] at this
    exact this
  · rw [hfl]
    have hsc : strCells (bs s) = s.map fun c => Value.int .u8 (c.toNat : Nat) := by simp [strCells, bs]
    rw [hsc]
    refine cv_flat ⟨by simp, fun k x u hx hu => ?_⟩ (fun x hx => ?_) _
    · rw [List.getElem?_map, Option.map_eq_some_iff] at hx hu
      obtain ⟨c, hc, rfl⟩ := hx
      obtain ⟨c', hc', rfl⟩ := hu
      rw [hc] at hc'
      cases hc'
      exact Rd.int (wf_u8 c)
    · obtain ⟨c, _, rfl⟩ := List.mem_map.1 hx
      rfl
theorem SimW.src_hnd (h : SimW P B W st a w pl F) {x : Operand} {i ep : Nat} {fl d : Bool} {e : TypeId} {els : List (List T)} (hx : st.ev x = .hnd i ep) (hl : look st.objs i = some (ep, .row fl d e els)) (hf : fl = true ∨ d = false) : SrcOk P B W st a w F x (P.cellsOf e) els [] fl := by
  obtain ⟨g1, us, hp⟩ := h.hnd_at hx hl
  obtain ⟨A, c, g2, g3, g4, g5⟩ := hp.slice
  have hlen : us.length = els.length * P.cellsOf e := by rw [← hp.len, flatten_len hp.uni]
  have hm : Mem w (fun _ => True) A us := fun hn => by
    obtain ⟨g, off, rfl, _, _, h6⟩ := g5 hn
    exact ⟨_, rfl, trivial, fun k u hk => by rw [add_lit0]; exact h6 k u hk⟩
  refine ⟨us, by rw [g1, g2]; rfl, fun k => by rw [g1, g2]; exact firstCells_mem hm hlen k, Nat.le_trans g3 g4, ?_⟩
  cases fl with
  | true => exact cv_flat ⟨hp.len.symm, fun k x u hx hu => (hp.rd k x u hx hu).flat (hp.flt rfl _ (List.mem_of_getElem? hx))⟩ (hp.flt rfl) _
  | false =>
    have hd : d = false := hf.resolve_left (by simp)
    exact cv_shared ⟨hp.len.symm, hp.shr hd⟩
/-- A row that goes over whole, with all that it owns. -/
theorem SimW.src_move (h : SimW P B W st a w pl F) {x : Operand} {i ep : Nat} {fl : Bool} {e : TypeId} {els : List (List T)} (hx : st.ev x = .hnd i ep) (hl : look st.objs i = some (ep, .row fl true e els)) : SrcOk P B W st a w F x (P.cellsOf e) els [(i, ep)] true := by
  obtain ⟨g1, us0, hp⟩ := h.hnd_at hx hl
  rcases h.objs i _ _ hl with ⟨_, h5⟩ | ⟨h5, _⟩
  · cases h5 with
    | flat hf => cases hf
    | lst us fs q1 q2 q3 q4 q5 q6 q7 q8 =>
      obtain ⟨A, c, g2, g3, g4, g5⟩ := ownsRow_slice q1
      have hlen : us.length = els.length * P.cellsOf e := by rw [← q4, flatten_len q2]
      have hm : Mem w (fun _ => True) A us := fun hn => by
        obtain ⟨g, off, rfl, _, _, h6⟩ := g5 hn
        exact ⟨_, rfl, trivial, fun k u hk => by rw [add_lit0]; exact h6 k u hk⟩
      refine ⟨us, by rw [g1, g2]; rfl, fun k => by rw [g1, g2]; exact firstCells_mem hm hlen k, Nat.le_trans g3 g4, ⟨q4.symm, fun u hu => ?_, fun k x u hx hu => ?_, fun _ => ⟨fs, q5, fun k b hb => ⟨i, ep, _, by simp, hl, (q8 b).2 (.inr ⟨k, hb⟩)⟩, q6⟩, fun o e' ho => ?_⟩⟩
      · obtain ⟨k, hk, rfl⟩ := List.getElem_of_mem hu
        have hlt : k < els.flatten.length := by rw [q4]; exact hk
        exact (q5 k _ _ (List.getElem?_eq_getElem hlt) (List.getElem?_eq_getElem hk)).one
      · exact (q5 k x u hx hu).rd fun b hb => .inr ⟨i, ep, _, by simp, hl, (q8 b).2 (.inr ⟨k, hb⟩)⟩
      · simp at ho; obtain ⟨rfl, rfl⟩ := ho; exact ⟨_, hl⟩
  · cases h5
end
theorem OwnsR.uniq {w : World} {e : TypeId} {size : Nat} {v : Value} {n n' : Nat} {xs xs' : List Value} (h : OwnsR w e size v n xs) (h' : OwnsR w e size v n' xs') : xs = xs' := by
  rcases h.2 with ⟨hv1, h0⟩ | ⟨gg, off, cap, cur, fz, hv1, hh1, _, _, _, _, ht1⟩
  · rcases h'.2 with ⟨hv2, h0'⟩ | ⟨gg', off', cap', cur', fz', hv2, _⟩
    · have e1 := h.1; have e2 := h'.1
      rw [h0, Nat.zero_mul] at e1
      rw [h0', Nat.zero_mul] at e2
      rw [List.eq_nil_of_length_eq_zero e1, List.eq_nil_of_length_eq_zero e2]
    · rw [hv1] at hv2; cases hv2
  · rcases h'.2 with ⟨hv2, _⟩ | ⟨gg', off', cap', cur', fz', hv2, hh2, _, _, _, _, ht2⟩
    · rw [hv1] at hv2; cases hv2
    · rw [hv1] at hv2
      cases hv2
      rw [hh1] at hh2
      cases hh2
      rw [← ht1, ← ht2]
theorem exec_append {s x : Operand} {c : Call} {t xt : TypeId} {a : Act} {w w' : World} {u : Value} (ho : o.op = .call c) (h1 : c.callee = .builtin .append) (h2 : c.args = #[s, x]) (h3 : c.argTypes = #[t, xt]) (hr : (Builtin.append_ #[t, xt] o.type #[a.eval s, a.eval x]).run P w = .ok u w') : (execOp a.eval o).run P w = .ok (.value u) w' := by
  unfold execOp
  rw [ho]
  simp [resolve, h1, h2, h3, invoke, builtin, hr]
theorem grown_below {w w' : World} {row : Option Nat} {N : Nat} (h : w.grownBy w' row) (hr : ∀ g, row = some g → N ≤ g) (hN : N ≤ w.heap.size) : Below N w w' :=
  ⟨h.os, h.tape, h.output, h.size, fun k hk => h.block k (by omega) fun e => by have := hr k e.symm; omega⟩
/-- What an append may take: the bytes of the new length. -/
def fits (n m eb : Nat) : Prop := (n + m) * eb ≤ 140737488355328 ∧ n + m ≤ 9223372036854775807
theorem OpS.append_nil {s x : Operand} {c : Call} {t xt e es eb site ep : Nat} {y yx ye : Ty} {zs : List V} {els : List (List T)} {ks : List (Nat × Nat)} {d fl : Bool} (ho : o.op = .call c) (hd : o.dst = some site) (h1 : c.callee = .builtin .append) (h2 : c.args = #[s, x]) (h3 : c.argTypes = #[t, xt])
    (hy : tinfo P t = some y) (hk : y.k = .slice e es eb) (hyx : tinfo P xt = some yx) (hkx : yx.k = .str ∨ ∃ a b c, yx.k = .slice a b c) (hye : tinfo P e = some ye) (hz : ye.zero = some zs) (hzl : zs.length = es) (hs : st.ev s = .t .nil)
    (hsrc : ∀ a w pl F, SimW P B W st a w pl F → SrcOk P B W st a w F x es els ks d) (hu : ∀ a w pl F, SimW P B W st a w pl F → (∀ x ∈ els, x.length = es) ∧ (fl = true → ∀ x ∈ els.flatten, x.flat = true)) (hks : ∀ x e, (x, e) ∈ ks → x ≠ site) (hfit : fits 0 els.length eb) (hep : nep (look st.objs site) = ep)
    (hK : KE (.hnd site ep) ((site, ep, .row fl d e els) :: kills ks)) : OpS P B W o st KE := fun a0 w0 pl0 F0 hS0 => by
  obtain ⟨ht, hes', heb⟩ := slice_t hy hk
  obtain ⟨hu1, hu2⟩ := hu a0 w0 pl0 F0 hS0
  refine OpS.newrow (els := els) hep hks (by rw [hes']; exact hu1) hu2 hK (fun a w pl F h => ?_) a0 w0 pl0 F0 hS0
  obtain ⟨us, q1, q2, q3, q4⟩ := hsrc a w pl F h
  have hlen : us.length = els.length * es := by rw [q4.len, flatten_len hu1]
  obtain ⟨v', w', r1, r2, r3, r4⟩ := run_append_g (P := P) w (ty := o.type) hy hk hyx hkx hye hz hzl (OwnsR.nil w e es) q1 q2 hlen q4.one (by have := hfit.2; simp only [maxLen]; omega) hfit.1
  rw [Nat.zero_add, List.nil_append] at r2
  exact ⟨us, v', w', exec_append ho h1 h2 h3 (by rw [h.nil_at hs]; exact r1), grown_below r3 (fun g hg => by cases hg) (Nat.le_refl _), by rw [hes']; exact r2, fun b hb => (by rcases r4 with r4 | ⟨r4, r5⟩ <;> rw [r4] at hb <;> cases hb; exact ⟨Nat.le_refl _, r5⟩), q4⟩
theorem OpS.append_hnd {s x : Operand} {c : Call} {t xt e e' es eb i ep : Nat} {y yx ye : Ty} {zs : List V} {els0 els : List (List T)} {ks : List (Nat × Nat)} {d0 d d' fl0 fl : Bool} (ho : o.op = .call c) (h1 : c.callee = .builtin .append) (h2 : c.args = #[s, x]) (h3 : c.argTypes = #[t, xt])
    (hy : tinfo P t = some y) (hk : y.k = .slice e es eb) (hyx : tinfo P xt = some yx) (hkx : yx.k = .str ∨ ∃ a b c, yx.k = .slice a b c) (hye : tinfo P e = some ye) (hz : ye.zero = some zs) (hzl : zs.length = es) (hs : st.ev s = .hnd i ep) (hl : look st.objs i = some (ep, .row fl0 d0 e' els0)) (he : e' = e)
    (hsrc : ∀ a w pl F, SimW P B W st a w pl F → SrcOk P B W st a w F x es els ks d) (hu : ∀ a w pl F, SimW P B W st a w pl F → (∀ x ∈ els, x.length = es) ∧ (fl = true → ∀ x ∈ els.flatten, x.flat = true)) (hks : ∀ x e, (x, e) ∈ ks → x ≠ i) (hfit : fits els0.length els.length eb) (hfl : fl = true → fl0 = true) (hd' : d' = true → d0 = true ∧ d = true)
    (hK : KE (.hnd i (ep + 1)) ((i, ep + 1, .row fl d' e (els0 ++ els)) :: kills ks)) : OpS P B W o st KE := fun a0 w0 pl0 F0 hS0 => by
  subst he
  obtain ⟨ht, hes', heb⟩ := slice_t hy hk
  obtain ⟨hu1, hu2⟩ := hu a0 w0 pl0 F0 hS0
  have hlive : ∀ x e, (x, e) ∈ ks → ∃ b, look st.objs x = some (e, b) := by
    obtain ⟨us, _, _, _, hc⟩ := hsrc a0 w0 pl0 F0 hS0
    exact hc.live
  refine OpS.chg (ks := ks) (i := i) (ep := ep + 1) hK (fun x e hx => ⟨hks x e hx, hlive x e hx⟩) (fun a w pl F h => ?_) a0 w0 pl0 F0 hS0
  obtain ⟨us, q1, q2, q3, q4⟩ := hsrc a w pl F h
  obtain ⟨g1, us0, hp⟩ := h.hnd_at hs hl
  have hown := hp.own
  rw [hes'] at hown
  have hlen : us.length = els.length * es := by rw [q4.len, flatten_len hu1]
  have hN : W.heap.size ≤ w.heap.size := h.below.size
  obtain ⟨v', w', r1, r2, r3, r4⟩ := run_append_g (P := P) w (ty := o.type) hy hk hyx hkx hye hz hzl hown q1 q2 hlen q4.one (by have := hfit.2; simp only [maxLen]; omega) hfit.1
  have hlt : ∀ b, F i b → W.o b ∧ b < w.heap.size := fun b hb => h.range i _ b hl hb
  have htop : ∀ b, v'.ownBlock = some b → (pl i).ownBlock = some b ∨ (b = w.heap.size ∧ w.heap.size < w'.heap.size) := fun b hb => by
    rcases r4 with r4 | ⟨r4, r5⟩
    · exact .inl (by rw [← r4]; exact hb)
    · rw [r4] at hb; cases hb; exact .inr ⟨rfl, r5⟩
  have hkeep : ∀ b, b < w.heap.size → (pl i).ownBlock ≠ some b → w'.heap[b]? = w.heap[b]? := fun b hb hne => r3.block b hb fun e => hne e.symm
  have hKF : ∀ o e y b, (o, e) ∈ ks → look st.objs o = some y → F o b → b < w.heap.size ∧ ¬ F i b := fun o e y b hk hl' hf => ⟨(h.range o y b hl' hf).2, fun hi => h.apart o i _ _ b (hks o e hk) hl' hl hf hi⟩
  have hone : v'.oneCell' = true := by obtain ⟨A, c, rfl, _⟩ := ownsRow_slice r2; rfl
  have hfu : (els0 ++ els).flatten = els0.flatten ++ els.flatten := List.flatten_append
  have hul : ∀ x ∈ els0 ++ els, x.length = P.cellsOf e' := fun x hx => by
    rcases List.mem_append.1 hx with hx | hx
    · exact hp.uni x hx
    · rw [hes']; exact hu1 x hx
  have hff : fl = true → ∀ x ∈ (els0 ++ els).flatten, x.flat = true := fun hf x hx => by
    rw [hfu] at hx
    rcases List.mem_append.1 hx with hx | hx
    · exact hp.flt (hfl hf) x hx
    · exact hu2 hf x hx
  have hll : (els0 ++ els).flatten.length = (us0 ++ us).length := by rw [hfu, List.length_append, List.length_append, hp.len, q4.len]
  have hown' : OwnsR w' e' (P.cellsOf e') v' (els0 ++ els).length (us0 ++ us) := by rw [hes', List.length_append]; exact r2
  have hbel : Kp W w w' := ⟨r3.os, r3.tape, r3.output, r3.size, fun k hk => by
    by_cases hkw : k < w.heap.size
    · exact r3.block k hkw fun e => hk (hlt k (hp.top k e.symm)).1
    · exact absurd (.inl (Nat.le_trans hN (Nat.le_of_not_lt hkw))) hk⟩
  have hch : ∀ b, b < w.heap.size → (∀ x, look st.objs i = some x → ¬ F i b) → w'.heap[b]? = w.heap[b]? := fun b hb hf => hkeep b hb fun ht' => hf _ hl (hp.top b ht')
  have hsplit : ∀ {Q : T → Value → Prop}, (∀ (k : Nat) (x : T) (u : Value), els0.flatten[k]? = some x → us0[k]? = some u → Q x u) → (∀ (k : Nat) (x : T) (u : Value), els.flatten[k]? = some x → us[k]? = some u → Q x u) →
      ∀ (k : Nat) (x : T) (u : Value), (els0 ++ els).flatten[k]? = some x → (us0 ++ us)[k]? = some u → Q x u := fun {Q} e1 e2 k x u hx hu => by
    rw [hfu] at hx
    by_cases hk : k < els0.flatten.length
    · rw [List.getElem?_append_left hk] at hx
      rw [List.getElem?_append_left (by rw [← hp.len]; exact hk)] at hu
      exact e1 k x u hx hu
    · rw [List.getElem?_append_right (by omega)] at hx
      rw [List.getElem?_append_right (by rw [← hp.len]; omega), ← hp.len] at hu
      exact e2 _ x u hx hu
  cases hdc : d' with
  | true =>
    obtain ⟨hd0, hd⟩ := hd' hdc
    subst hd0 hd
    obtain ⟨fs2, p1, p2, p3⟩ := q4.own rfl
    rcases h.objs i _ _ hl with ⟨_, h5⟩ | ⟨h5, _⟩
    case inr => cases h5
    generalize hpl : pl i = vi at *
    cases h5 with
    | flat hf => cases hf
    | lst us1 fs s1 s2 s3 s4 s5 s6 s7 s8 =>
    have hus : us1 = us0 := s1.uniq hp.own
    subst hus
    have hFi : ∀ k b, fs k b → F i b := fun k b hb => (s8 b).2 (.inr ⟨k, hb⟩)
    have hfs2 : ∀ k b, fs2 k b → b < w.heap.size ∧ ¬ F i b := fun k b hb => by
      obtain ⟨j, e', y', k1, k2, k3⟩ := p2 k b hb
      exact hKF j e' y' b k1 k2 k3
    let fsA : Nat → Nat → Prop := fun k => if k < els0.flatten.length then fs k else fs2 (k - els0.flatten.length)
    have fsA1 : ∀ k, k < els0.flatten.length → fsA k = fs k := fun k hk => if_pos hk
    have fsA2 : ∀ k, ¬ k < els0.flatten.length → fsA k = fs2 (k - els0.flatten.length) := fun k hk => if_neg hk
    have hA : ∀ k b, fsA k b → (∃ k, fs k b) ∨ ∃ k, fs2 k b := fun k b hb => by
      by_cases hk : k < els0.flatten.length
      · rw [fsA1 k hk] at hb; exact .inl ⟨k, hb⟩
      · rw [fsA2 k hk] at hb; exact .inr ⟨_, hb⟩
    have hnt : ∀ k b, fsA k b → v'.ownBlock ≠ some b := fun k b hb ht' => by
      rcases htop b ht' with h6 | ⟨h6, _⟩
      · rcases hA k b hb with ⟨k', hf⟩ | ⟨k', hf⟩
        · exact s7 k' b hf h6
        · exact (hfs2 k' b hf).2 (hp.top b h6)
      · subst h6
        rcases hA k _ hb with ⟨k', hf⟩ | ⟨k', hf⟩
        · exact absurd (hlt _ (hFi k' _ hf)).2 (Nat.lt_irrefl _)
        · exact absurd (hfs2 k' _ hf).1 (Nat.lt_irrefl _)
    refine ⟨_, w', v', fun b => v'.ownBlock = some b ∨ ∃ k, fsA k b, v', exec_append ho h1 h2 h3 (by rw [g1]; exact r1), .inl rfl, hbel, hch, fun ep0 ob0 h0 => .inl (by rw [hl] at h0; cases h0; omega), fun _ => Nat.succ_pos _, fun b hb => ?_, fun lk' pl' Fr' g hg e1 e2 => ⟨?_, hone, _, _, e1, Nat.le_refl _, fun _ => ⟨rfl, e2.symm⟩⟩⟩
    · rcases hb with hb | ⟨k, hb⟩
      · rcases htop b hb with h6 | ⟨h6, h7⟩
        · exact .inr (.inl ⟨_, hl, hp.top b h6⟩)
        · exact .inl (by omega)
      · rcases hA k b hb with ⟨k', hf⟩ | ⟨k', hf⟩
        · exact .inr (.inl ⟨_, hl, hFi k' b hf⟩)
        · obtain ⟨j, e', y', k1, k2, k3⟩ := p2 k' b hf
          exact .inr (.inr ⟨j, y', hks j e' k1, ⟨e', k1⟩, k2, k3⟩)
    · refine mk_row hown' hul hff hll (fun h => by cases h) fun _ => ⟨fsA, fun k x u hx hu => ?_, fun k k' b hne hb hb' => ?_, hnt, fun b => Iff.rfl⟩
      · rw [hfu] at hx
        by_cases hk : k < els0.flatten.length
        · rw [List.getElem?_append_left hk] at hx
          rw [List.getElem?_append_left (by rw [← hp.len]; exact hk)] at hu
          rw [fsA1 k hk]
          exact (s5 k x u hx hu).keep fun b hb => hkeep b (hlt b (hFi k b hb)).2 (s7 k b hb)
        · rw [List.getElem?_append_right (by omega)] at hx
          rw [List.getElem?_append_right (by rw [← hp.len]; omega), ← hp.len] at hu
          rw [fsA2 k hk]
          exact (p1 _ x u hx hu).keep fun b hb => hkeep b (hfs2 _ b hb).1 fun ht' => (hfs2 _ b hb).2 (hp.top b ht')
      · by_cases hk : k < els0.flatten.length
        · rw [fsA1 k hk] at hb
          by_cases hk' : k' < els0.flatten.length
          · rw [fsA1 k' hk'] at hb'; exact s6 k k' b hne hb hb'
          · rw [fsA2 k' hk'] at hb'; exact (hfs2 _ b hb').2 (hFi k b hb)
        · rw [fsA2 k hk] at hb
          by_cases hk' : k' < els0.flatten.length
          · rw [fsA1 k' hk'] at hb'; exact (hfs2 _ b hb).2 (hFi k' b hb')
          · rw [fsA2 k' hk'] at hb'; exact p3 _ _ b (by omega) hb hb'
  | false =>
    refine ⟨_, w', v', fun b => v'.ownBlock = some b, v', exec_append ho h1 h2 h3 (by rw [g1]; exact r1), .inl rfl, hbel, hch, fun ep0 ob0 h0 => .inl (by rw [hl] at h0; cases h0; omega), fun _ => Nat.succ_pos _, fun b hb => ?_, fun lk' pl' Fr' g hg e1 e2 => ⟨?_, hone, _, _, e1, Nat.le_refl _, fun _ => ⟨rfl, e2.symm⟩⟩⟩
    · rcases htop b hb with h6 | ⟨h6, h7⟩
      · exact .inr (.inl ⟨_, hl, hp.top b h6⟩)
      · exact .inl (by omega)
    · have hcv : ∀ (k : Nat) (x : T) (u : Value), els.flatten[k]? = some x → us[k]? = some u → Rd P w' Fr' x u := fun k x u hx hu => (q4.rd k x u hx hu).mono (fun b hb => by
          rcases hb with hb | ⟨j, e', y', k1, k2, k3⟩
          · exact g.more b hb
          · have h6 := hKF j e' y' b k1 k2 k3
            refine hg b (.inr ⟨j, y', hks j e' k1, ⟨e', k1⟩, k2, k3⟩) fun ht' => ?_
            rcases htop b ht' with h7 | ⟨h7, _⟩
            · exact h6.2 (hp.top b h7)
            · omega) fun b hb => by
          rcases hb with hb | ⟨j, e', y', k1, k2, k3⟩
          · exact g.heap b hb
          · have h6 := hKF j e' y' b k1 k2 k3
            exact hkeep b h6.1 fun ht' => h6.2 (hp.top b ht')
      refine mk_row hown' hul hff hll (fun _ => ⟨hsplit (fun k x u hx hu => ?_) hcv, fun b => Iff.rfl⟩) fun h => by cases h
      cases hd0 : d0 with
      | false => subst hd0; exact (hp.shr rfl k x u hx hu).mono g.more g.heap
      | true =>
        subst hd0
        rcases h.objs i _ _ hl with ⟨_, h5⟩ | ⟨h5, _⟩
        case inr => cases h5
        generalize hpl : pl i = vi at *
        cases h5 with
        | flat hf => cases hf
        | lst us1 fs s1 s2 s3 s4 s5 s6 s7 s8 =>
        have hus : us1 = us0 := s1.uniq hp.own
        subst hus
        have hFi : ∀ k b, fs k b → F i b := fun k b hb => (s8 b).2 (.inr ⟨k, hb⟩)
        have h6 : Rd P w (fs k) x u := (s5 k x u hx hu).rd fun b hb => hb
        refine h6.mono (fun b hb => hg b (.inl ⟨_, hl, hFi k b hb⟩) fun ht' => ?_) fun b hb => hkeep b (hlt b (hFi k b hb)).2 (s7 k b hb)
        rcases htop b ht' with h7 | ⟨h7, _⟩
        · exact s7 k b hb h7
        · have := (hlt b (hFi k b hb)).2
          omega
end
end Go.Proofs.Ytkdcpdbgdijbnaa.Ab
