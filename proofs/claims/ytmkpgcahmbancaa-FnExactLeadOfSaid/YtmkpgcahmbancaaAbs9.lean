/- What is proved: the steps of single operations on abstract states: slice literals, make, append.
   Conditions: none beyond those that each lemma names. -/
import Derived.Test.YtmkpgcahmbancaaAbs8
namespace Go.Proofs.Ytmkpgcahmbancaa.Ab
set_option linter.unusedSimpArgs false
set_option linter.unusedVariables false
open Go.RowKit Go.Lib

section
variable {P : Program} {B : Nat → Prop} {W : En} {o : Oper} {st : St} {KE : V → List (Nat × Nat × Ob) → Prop}
/-- A new row out of converted cells. -/
theorem OpS.newrow {site ep e : Nat} {fl d : Bool} {els : List (List T)} {ks : List (Nat × Nat)} (hep : nep (look st.objs site) = ep) (hks : ∀ x e, (x, e) ∈ ks → x ≠ site) (hu : ∀ x ∈ els, x.length = P.cellsOf e) (hfl : fl = true → ∀ x ∈ els.flatten, x.flat = true) (hK : KE (.hnd site ep) ((site, ep, .row fl d e els) :: kills ks))
    (h : ∀ a w pl F, SimW P B W st a w pl F → ∃ (us : List Value) (u : Value) (w' : World), (execOp a.eval o).run P w = .ok (.value u) w' ∧ Below w.heap.size w w' ∧ OwnsR w' e (P.cellsOf e) u els.length us ∧ (∀ b, u.ownBlock = some b → w.heap.size ≤ b ∧ b < w'.heap.size) ∧ Cv P B W st w F els.flatten us ks d) : OpS P B W o st KE := by
  subst hep
  have hlive : ∀ a w pl F, SimW P B W st a w pl F → ∀ x e, (x, e) ∈ ks → ∃ b, look st.objs x = some (e, b) := fun a w pl F hs => by
    obtain ⟨us, u, w', _, _, _, _, hc⟩ := h a w pl F hs
    exact hc.live
  intro a w pl0 F0 hs0 next Q hn
  refine OpS.chg (P := P) (B := B) (W := W) (o := o) (st := st) (KE := KE) (ks := ks) (i := site) (ep := nep (look st.objs site)) hK (fun x e hx => ⟨hks x e hx, hlive a w pl0 F0 hs0 x e hx⟩) (fun a w pl F hs => ?_) a w pl0 F0 hs0 next Q hn
  obtain ⟨us, u, w', hr, hb, hown, htop, hc⟩ := h a w pl F hs
  have hown' := hown
  have hone : u.oneCell' = true := by obtain ⟨A, c, rfl, _⟩ := ownsRow_slice hown; rfl
  have hKlt : ∀ o e y b, (o, e) ∈ ks → look st.objs o = some y → F o b → b < w.heap.size := fun o e y b _ hl hf => (hs.range o y b hl hf).2
  have hkeep : ∀ b, b < w.heap.size → w'.heap[b]? = w.heap[b]? := fun b hlt => hb.block b hlt
  cases d with
  | false =>
    refine ⟨_, w', u, fun b => u.ownBlock = some b, u, hr, .inl rfl, Below.kp hb hs.below.size, fun b hlt _ => hkeep b hlt, fun ep0 ob0 h0 => .inl (nep_lt h0), fun _ => nep_pos _, fun b hb => .inl (htop b hb), fun lk' pl' Fr' g hg e1 e2 => ⟨?_, hone, _, _, e1, Nat.le_refl _, fun _ => ⟨rfl, e2.symm⟩⟩⟩
    refine mk_row hown' hu hfl hc.len.symm (fun _ => ⟨fun k x v hx hv => (hc.rd k x v hx hv).mono (fun b hb => ?_) fun b hb => ?_, fun b => Iff.rfl⟩) fun h => by cases h
    · rcases hb with hb | ⟨i, e', y, h1, h2, h3⟩
      · exact g.more b hb
      · refine hg b (.inr ⟨i, y, hks i e' h1, ⟨e', h1⟩, h2, h3⟩) fun ht => ?_
        have := (htop b ht).1
        have := hKlt i e' y b h1 h2 h3
        omega
    · rcases hb with hb | ⟨i, e', y, h1, h2, h3⟩
      · exact hkeep b hb.2.1
      · exact hkeep b (hKlt i e' y b h1 h2 h3)
  | true =>
    obtain ⟨fs, g1, g2, g3⟩ := hc.own rfl
    have hfs : ∀ k b, fs k b → b < w.heap.size := fun k b hf => by
      obtain ⟨i, e', y, h1, h2, h3⟩ := g2 k b hf
      exact hKlt i e' y b h1 h2 h3
    refine ⟨_, w', u, fun b => u.ownBlock = some b ∨ ∃ k, fs k b, u, hr, .inl rfl, Below.kp hb hs.below.size, fun b hlt _ => hkeep b hlt, fun ep0 ob0 h0 => .inl (nep_lt h0), fun _ => nep_pos _, fun b hb => ?_, fun lk' pl' Fr' g hg e1 e2 => ⟨?_, hone, _, _, e1, Nat.le_refl _, fun _ => ⟨rfl, e2.symm⟩⟩⟩
    · rcases hb with hb | ⟨k, hk⟩
      · exact .inl (htop b hb)
      · obtain ⟨i, e', y, h1, h2, h3⟩ := g2 k b hk
        exact .inr (.inr ⟨i, y, hks i e' h1, ⟨e', h1⟩, h2, h3⟩)
    · refine mk_row hown' hu hfl hc.len.symm (fun h => by cases h) fun _ => ⟨fs, fun k x v hx hv => (g1 k x v hx hv).keep fun b hb => hkeep b (hfs k b hb), g3, fun k b hb ht => ?_, fun b => Iff.rfl⟩
      have := (htop b ht).1
      have := hfs k b hb
      omega
/-! ### Slice literals -/
theorem OpS.buildSlice {t : TypeId} {len : Nat} {parts : Array (Nat × Operand)} {xs : List Operand} {y ye : Ty} {e es eb site ep : Nat} {zs : List V} {ts : List T} {ks : List (Nat × Nat)} {d fl : Bool} {els : List (List T)} {vs : List V}
    (ho : o.op = .buildSlice t len parts) (hd : o.dst = some site) (hparts : parts.toList = (xs.zipIdx 0).map fun p => (p.2, p.1)) (hlen : xs.length = len) (hy : tinfo P t = some y) (hk : y.k = .slice e es eb) (hye : tinfo P e = some ye) (hz : ye.zero = some zs) (hzl : zs.length = es) (hes : 0 < es) (hsm : len * es ≤ 16777216)
    (hvs : xs.map st.ev = vs) (hsto : vs.all (fun v => (cellsV v).all V.sto && decide ((cellsV v).length = es)) = true) (hcv : cvt (look st.objs) (vs.flatMap cellsV) = some (ts, ks, d)) (hnd : (ks.map (·.1)).Nodup) (hks : ∀ x e, (x, e) ∈ ks → x ≠ site)
    (hel : els.flatten = ts) (hell : els.length = len) (hu : ∀ x ∈ els, x.length = es) (hfl : ts.all T.flat = fl) (hep : nep (look st.objs site) = ep) (hK : KE (.hnd site ep) ((site, ep, .row fl d e els) :: kills ks)) : OpS P B W o st KE := by
  obtain ⟨ht, hes', heb⟩ := slice_t hy hk
  have hsto' : ∀ v ∈ vs, (cellsV v).all V.sto = true ∧ (cellsV v).length = es := fun v hv => by
    have := List.all_eq_true.1 hsto v hv
    rw [Bool.and_eq_true] at this
    exact ⟨this.1, of_decide_eq_true this.2⟩
  refine OpS.newrow hep hks (by rw [hes']; exact hu) (fun h => by rw [← hfl] at h; rw [hel]; exact List.all_eq_true.1 h) hK fun a w pl F hs => ?_
  obtain ⟨de, i, hue, hi, _, hsz, hby, hzero⟩ := tinfo_parts hye
  have hsi : i.size = es := by rw [← hes']; simp [Program.cellsOf, hi]
  rw [hz] at hzero
  obtain ⟨z, hz1, hz2⟩ := Option.map_eq_some_iff.1 hzero.symm
  have hzs : z.cells.size = es := by rw [← hzl, ← hz2]; simp
  -- the values' cells
  have hcells : ∀ (l : List Operand), (∀ x ∈ l, st.ev x ∈ vs) → ∃ us : List Value, (l.map a.eval).flatMap (fun v => v.cells.toList) = us ∧ Pw (C0 P w (look st.objs) pl (Free B W.o (look st.objs) F w)) ((l.map st.ev).flatMap cellsV) us ∧ ∀ v ∈ l.map a.eval, v.cells.size = es := by
    intro l
    induction l with
    | nil => intro _; exact ⟨[], rfl, Pw.nil, by simp⟩
    | cons x l ih =>
      intro hl
      obtain ⟨us, h1, h2, h3⟩ := ih fun y hy => hl y (by simp [hy])
      obtain ⟨g1, g2⟩ := hsto' (st.ev x) (hl x (by simp))
      obtain ⟨us', h4, h5, h6⟩ := ((hs.ev x).c1 g1).cells g1
      have hlen5 : us'.length = es := by rw [h5.1, g2]
      refine ⟨us' ++ us, by simp only [List.map_cons, List.flatMap_cons, h1, h4], by simpa [List.map_cons, List.flatMap_cons] using h5.append h2, fun v hv => ?_⟩
      rw [List.map_cons] at hv
      rcases List.mem_cons.1 hv with rfl | hv
      · rw [h4]; simpa using hlen5
      · exact h3 v hv
  obtain ⟨us, hu1, hu2, hu3⟩ := hcells xs fun x hx => by rw [← hvs]; exact List.mem_map_of_mem hx
  rw [hvs] at hu2
  have hc := hs.cvt hu2 hcv hnd
  have hulen : us.length = len * es := by
    rw [hc.len, ← hel, flatten_len hu, hell]
  have hpl : (parts.map fun x => (x.1, a.eval x.2)).toList = ((xs.map a.eval).zipIdx 0).map fun p => (p.2, p.1) := by
    rw [Array.toList_map, hparts, List.map_map, List.zipIdx_map, List.map_map]
    rfl
  by_cases hl0 : len = 0
  · subst hl0
    have hx0 : xs = [] := List.eq_nil_of_length_eq_zero hlen
    subst hx0
    have hus : us = [] := List.eq_nil_of_length_eq_zero (by simpa using hulen)
    subst hus
    refine ⟨[], .slice (some ⟨w.heap.size, 0, none⟩) 0 0, w.alloc (.cells #[] e), ?_, below_alloc w _, ?_, fun b hb => (by cases hb; simp), by rw [hel]; exact hc⟩
    · unfold execOp
      rw [ho]
      refine exec_value ?_
      have hp0 : parts = #[] := by
        have : parts.toList = [] := hparts
        simpa using this
      subst hp0
      simp [Instr.buildSlice, run_underlying ht, sizeOf, typeInfo, hi, Instr.fill, newRow]
      congr 2
      exact Array.eq_empty_of_size_eq_zero (by simp)
    · rw [hell]
      exact ⟨by simp, .inr ⟨w.heap.size, 0, 0, #[], (0, 0), rfl, heap_alloc_new w _, .inl rfl, Nat.le_refl _, by simp [maxLen], by simp, by simp⟩⟩
  · have hfill := Great.fill_whole hes (xs.map a.eval) ((Array.range (len * i.size)).map (z.cells[· % z.cells.size]!)) hu3 (by simp [hsi, hlen])
    rw [← hpl, hu1] at hfill
    rw [← hsi] at hfill
    refine ⟨us, .slice (some ⟨w.heap.size, 0, none⟩) len len, w.alloc (.cells us.toArray e), ?_, below_alloc w _, ?_, fun b hb => (by cases hb; simp), by rw [hel]; exact hc⟩
    · unfold execOp
      rw [ho]
      refine exec_value ?_
      exact run_buildSlice w t e len _ us.toArray i z ht hi hz1 (by rw [hsi]; omega) (by rw [hsi]; exact Nat.ne_of_gt (Nat.mul_pos (by omega) hes)) hfill
    · rw [hell, hes']
      have hlm : len ≤ maxLen := by
        have : len ≤ len * es := Nat.le_mul_of_pos_right _ hes
        have hm : (16777216 : Nat) ≤ maxLen := by decide
        omega
      exact ⟨hulen, .inr ⟨w.heap.size, 0, len, us.toArray, (0, 0), rfl, heap_alloc_new w _, .inl rfl, Nat.le_refl _, hlm, by simp [hulen], by rw [← hulen]; simp⟩⟩
/-! ### Append -/
/-- The source of an append, read. -/
def SrcOk (P : Program) (B : Nat → Prop) (W : En) (st : St) (a : Act) (w : World) (F : Nat → Nat → Prop) (x : Operand) (es : Nat) (els : List (List T)) (ks : List (Nat × Nat)) (d : Bool) : Prop :=
  ∃ us : List Value, (Builtin.lenOf (a.eval x)).run P w = .ok els.length w ∧ (∀ k, (Builtin.firstCells es els.length (a.eval x)).run P (w.drewN k) = .ok us.toArray (w.drewN k)) ∧ els.length ≤ maxLen ∧ Cv P B W st w F els.flatten us ks d
section
variable {a : Act} {w : World} {pl : Nat → Value} {F : Nat → Nat → Prop}
end
theorem OwnsR.uniq {w : World} {e : TypeId} {size : Nat} {v : Value} {n n' : Nat} {xs xs' : List Value} (h : OwnsR w e size v n xs) (h' : OwnsR w e size v n' xs') : xs = xs' := by
  rcases h.2 with ⟨hv1, h0⟩ | ⟨gg, off, cap, cur, fz, hv1, hh1, _, _, _, _, ht1⟩
  · rcases h'.2 with ⟨hv2, h0'⟩ | ⟨gg', off', cap', cur', fz', hv2, _⟩
    · have e1 := h.1; have e2 := h'.1
      rw [h0, Nat.zero_mul] at e1
      rw [h0', Nat.zero_mul] at e2
      rw [List.eq_nil_of_length_eq_zero e1, List.eq_nil_of_length_eq_zero e2]
    · rw [hv1] at hv2; cases hv2
  · rcases h'.2 with ⟨hv2, _⟩ | ⟨gg', off', cap', cur', fz', hv2, hh2, _, _, _, _, ht2⟩
    · rw [hv1] at hv2; cases hv2
    · rw [hv1] at hv2
      cases hv2
      rw [hh1] at hh2
      cases hh2
      rw [← ht1, ← ht2]
theorem exec_append {s x : Operand} {c : Call} {t xt : TypeId} {a : Act} {w w' : World} {u : Value} (ho : o.op = .call c) (h1 : c.callee = .builtin .append) (h2 : c.args = #[s, x]) (h3 : c.argTypes = #[t, xt]) (hr : (Builtin.append_ #[t, xt] o.type #[a.eval s, a.eval x]).run P w = .ok u w') : (execOp a.eval o).run P w = .ok (.value u) w' := by
  unfold execOp
  rw [ho]
  simp [resolve, h1, h2, h3, invoke, builtin, hr]
theorem grown_below {w w' : World} {row : Option Nat} {N : Nat} (h : w.grownBy w' row) (hr : ∀ g, row = some g → N ≤ g) (hN : N ≤ w.heap.size) : Below N w w' :=
  ⟨h.os, h.tape, h.output, h.size, fun k hk => h.block k (by omega) fun e => by have := hr k e.symm; omega⟩
/-- What an append may take: the bytes of the new length. -/
def fits (n m eb : Nat) : Prop := (n + m) * eb ≤ 140737488355328 ∧ n + m ≤ 9223372036854775807
theorem OpS.append_nil {s x : Operand} {c : Call} {t xt e es eb site ep : Nat} {y yx ye : Ty} {zs : List V} {els : List (List T)} {ks : List (Nat × Nat)} {d fl : Bool} (ho : o.op = .call c) (hd : o.dst = some site) (h1 : c.callee = .builtin .append) (h2 : c.args = #[s, x]) (h3 : c.argTypes = #[t, xt])
    (hy : tinfo P t = some y) (hk : y.k = .slice e es eb) (hyx : tinfo P xt = some yx) (hkx : yx.k = .str ∨ ∃ a b c, yx.k = .slice a b c) (hye : tinfo P e = some ye) (hz : ye.zero = some zs) (hzl : zs.length = es) (hs : st.ev s = .t .nil)
    (hsrc : ∀ a w pl F, SimW P B W st a w pl F → SrcOk P B W st a w F x es els ks d) (hu : ∀ a w pl F, SimW P B W st a w pl F → (∀ x ∈ els, x.length = es) ∧ (fl = true → ∀ x ∈ els.flatten, x.flat = true)) (hks : ∀ x e, (x, e) ∈ ks → x ≠ site) (hfit : fits 0 els.length eb) (hep : nep (look st.objs site) = ep)
    (hK : KE (.hnd site ep) ((site, ep, .row fl d e els) :: kills ks)) : OpS P B W o st KE := fun a0 w0 pl0 F0 hS0 => by
  obtain ⟨ht, hes', heb⟩ := slice_t hy hk
  obtain ⟨hu1, hu2⟩ := hu a0 w0 pl0 F0 hS0
  refine OpS.newrow (els := els) hep hks (by rw [hes']; exact hu1) hu2 hK (fun a w pl F h => ?_) a0 w0 pl0 F0 hS0
  obtain ⟨us, q1, q2, q3, q4⟩ := hsrc a w pl F h
  have hlen : us.length = els.length * es := by rw [q4.len, flatten_len hu1]
  obtain ⟨v', w', r1, r2, r3, r4⟩ := run_append_g (P := P) w (ty := o.type) hy hk hyx hkx hye hz hzl (OwnsR.nil w e es) q1 q2 hlen q4.one (by have := hfit.2; simp only [maxLen]; omega) hfit.1
  rw [Nat.zero_add, List.nil_append] at r2
  exact ⟨us, v', w', exec_append ho h1 h2 h3 (by rw [h.nil_at hs]; exact r1), grown_below r3 (fun g hg => by cases hg) (Nat.le_refl _), by rw [hes']; exact r2, fun b hb => (by rcases r4 with r4 | ⟨r4, r5⟩ <;> rw [r4] at hb <;> cases hb; exact ⟨Nat.le_refl _, r5⟩), q4⟩
end
end Go.Proofs.Ytmkpgcahmbancaa.Ab
