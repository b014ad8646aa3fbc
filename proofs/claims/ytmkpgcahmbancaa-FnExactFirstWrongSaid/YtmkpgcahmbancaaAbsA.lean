/- What is proved: the calculus of abstract states: regions that draw their order.
   Conditions: none beyond those that each lemma names. -/
import Derived.Test.YtmkpgcahmbancaaAbs6
import Derived.Great.BuildSlice
import Derived.Lib.AppendStr
import Derived.Orders
import Derived.OrdersHeld
import Derived.KernelRfl
namespace Go.Proofs.Ytmkpgcahmbancaa.Ab
set_option linter.unusedSimpArgs false
set_option linter.unusedVariables false
open Go.RowKit

/-! ### Append -/
theorem frozen_g {w : World} {g j : Nat} {cur : Array Value} {t : TypeId} {fz : Nat × Nat} (hg : w.heap[g]? = some (.cells cur t fz)) (hfz : fz = (0, 0) ∨ cur.size ≤ fz.1) (hj : j < cur.size) : w.frozen? ⟨g, j, none⟩ = false := by
  obtain ⟨lo, hi⟩ := fz
  simp only [World.frozen?, hg, Bool.and_eq_false_iff, decide_eq_false_iff_not]
  rcases hfz with h | h
  · cases h; right; omega
  · left; simp only at h; omega
theorem run_storeCells_g (P : Program) (g o : Nat) (t : TypeId) (fz : Nat × Nat) : ∀ (vs : List Value) (i : Nat) (cur : Array Value) (w : World), w.heap[g]? = some (.cells cur t fz) → (fz = (0, 0) ∨ cur.size ≤ fz.1) → o + i + vs.length ≤ cur.size → (∀ v ∈ vs, v.oneCell' = true) →
    (storeCells ⟨g, o, none⟩ vs i).run P w = .ok () (w.setRow g (cur.toList.take (o + i) ++ vs ++ cur.toList.drop (o + i + vs.length)).toArray)
  | [], i, cur, w, hg, _, _, _ => by
    simp only [storeCells, List.append_nil, List.length_nil, Nat.add_zero, List.take_append_drop, Array.toArray_toList]
    rw [setRow_self w g cur t fz hg]
    rfl
  | v :: rest, i, cur, w, hg, hfz, hl, h1 => by
    have hi : o + i < cur.size := by simp at hl; omega
    have hadd : (⟨g, o, none⟩ : Addr).add i = ⟨g, o + i, none⟩ := add_lit0 g o i
    have hcell : w.cell? ⟨g, o + i, none⟩ = some cur[o + i] := by simp [World.cell?, hg, hi]
    have hfro : w.frozen? ⟨g, o + i, none⟩ = false := frozen_g hg hfz hi
    have hst : (store ((⟨g, o, none⟩ : Addr).add i) v).run P w = .ok () (w.setRow g (cur.setIfInBounds (o + i) v)) := by
      rw [hadd, run_store P w _ v _ (h1 v (by simp)), hcell]
      simp [hfro, setCell_eq_setRow w g (o + i) cur t fz v hg]
    have ih := run_storeCells_g P g o t fz rest (i + 1) (cur.setIfInBounds (o + i) v) (w.setRow g (cur.setIfInBounds (o + i) v)) (setRow_heap w g cur _ t _ hg) (by simpa using hfz) (by simp at hl ⊢; omega) (fun x hx => h1 x (by simp [hx]))
    simp only [storeCells, Sem.run_bind, hst, Result.andThen_ok, ih, setRow_setRow]
    congr 3
    have e := list_seg_step cur.toList (o + i) v rest (by simp at hl ⊢; omega)
    simpa [Array.toList_setIfInBounds, Nat.add_assoc] using e
set_option maxHeartbeats 1000000 in
theorem run_append_g {P : Program} (w : World) {t xt ty e : TypeId} {y yx : Ty} {es eb : Nat} {ye : Ty} {zs : List V} (hy : tinfo P t = some y) (hk : y.k = .slice e es eb) (hyx : tinfo P xt = some yx) (hkx : yx.k = .str ∨ ∃ a b c, yx.k = .slice a b c) (hye : tinfo P e = some ye) (hz : ye.zero = some zs) (hzl : zs.length = es)
    {v : Value} {n : Nat} {xs : List Value} (hown : OwnsR w e es v n xs) {x : Value} {m : Nat} {news : List Value} (hlen : (Builtin.lenOf x).run P w = .ok m w) (hcells : ∀ k, (Builtin.firstCells es m x).run P (w.drewN k) = .ok news.toArray (w.drewN k)) (hl : news.length = m * es) (h1 : ∀ u ∈ news, u.oneCell' = true)
    (h63 : n + m ≤ maxLen) (hbytes : (n + m) * eb ≤ 140737488355328) :
    ∃ v' w', (Builtin.append_ #[t, xt] ty #[v, x]).run P w = .ok v' w' ∧ OwnsR w' e es v' (n + m) (xs ++ news) ∧ w.grownBy w' v.ownBlock ∧ (v'.ownBlock = v.ownBlock ∨ (v'.ownBlock = some w.heap.size ∧ w.heap.size < w'.heap.size)) := by
  obtain ⟨ht, hes', heb⟩ := slice_t hy hk
  obtain ⟨dx, ix, hux, _, hkx', _⟩ := tinfo_parts hyx
  obtain ⟨de, i, hue, hi, _, hsz, hby, hzero⟩ := tinfo_parts hye
  have hsi : i.size = es := by rw [← hes']; simp [Program.cellsOf, hi]
  have hbi : i.bytes = eb := by rw [← heb]; simp [Program.bytesOf, hi]
  rw [hz] at hzero
  obtain ⟨z, hz1, hz2⟩ := Option.map_eq_some_iff.1 hzero.symm
  have hzs : z.cells.size = es := by rw [← hzl, ← hz2]; simp
  have hlen' : (xs ++ news).length = (n + m) * es := by rw [List.length_append, hown.1, hl, Nat.add_mul]
  have hdx : dx = .string ∨ ∃ e', dx = .slice e' := by
    rw [hkx'] at hkx
    cases dx <;> first | exact .inl rfl | exact .inr ⟨_, rfl⟩ | (rcases hkx with h | ⟨a, b, c, h⟩ <;> cases h)
  have hc0 : (Builtin.firstCells es m x).run P w = .ok news.toArray w := hcells 0
  have hc1 : (Builtin.firstCells es m x).run P w.drew = .ok news.toArray w.drew := hcells 1
  have grow : ∀ (base : Option Addr) (cap : Nat), v = .slice base n cap → cap < n + m → (Builtin.firstCells es n v).run P w.drew = .ok xs.toArray w.drew → ∃ v' w', (Builtin.append_ #[t, xt] ty #[v, x]).run P w = .ok v' w' ∧ OwnsR w' e es v' (n + m) (xs ++ news) ∧ w.grownBy w' v.ownBlock ∧ (v'.ownBlock = v.ownBlock ∨ (v'.ownBlock = some w.heap.size ∧ w.heap.size < w'.heap.size)) := by
    intro base cap hv hg hold
    have hge := grownCap_ge w (n + m) cap e
    have hcm : grownCap w (n + m) cap e ≤ maxLen := grownCap_le_maxLen w (n + m) cap e h63
    have hnr : ¬ (n + m ≤ cap) := by omega
    have h63' : ¬ (9223372036854775807 < ((n : Int) + (m : Int))) := by simp only [maxLen] at h63; omega
    have hfit := growslice_fits (need := n + m) (old := cap) (bytes := eb) hg hbytes
    have h48' : ¬ (281474976710656 < Builtin.nextslicecap (n + m) cap * eb) := by omega
    refine ⟨.slice (some ⟨w.heap.size, 0, none⟩) (n + m) (grownCap w (n + m) cap e), w.drew.alloc (.cells (xs.toArray ++ news.toArray ++ Builtin.zeroCells z.cells (grownCap w (n + m) cap e - (n + m))) e), ?_, ⟨hlen', .inr ⟨w.heap.size, 0, _, _, (0, 0), rfl, heap_alloc_new w.drew _, .inl rfl, hge, hcm, ?_, ?_⟩⟩, ⟨rfl, rfl, rfl, by simp, fun k hk _ => Below.heap_alloc w.drew _ k hk⟩, .inr ⟨rfl, by simp⟩⟩
    · subst hv
      rcases hdx with rfl | ⟨e', rfl⟩ <;> (simp [Builtin.append_, run_underlying ht, run_underlying hux, sizeOf, typeInfo, zeroValue, hi, hz1, hsi, hbi, hlen, hnr, h63', h48', Question.forced, hc1, hold, newRow, grownCap]; first | done | (congr 2; apply Array.ext'; simp [List.append_assoc]))
    · simp only [Array.size_append, List.size_toArray, size_zeroCells, hzs, hown.1, hl, ← Nat.add_mul]
      rw [Nat.zero_add]
      refine Nat.le_of_eq ?_
      congr 1
      omega
    · simp only [Array.toList_append, List.append_assoc, List.drop_zero]
      rw [← List.append_assoc, ← hlen']
      exact List.take_left
  rcases hown.2 with ⟨rfl, rfl⟩ | ⟨g, off, cap, cur, fz, rfl, hg, hfz, hnc, hcm, hcs, htake⟩
  · have hx : xs = [] := List.eq_nil_of_length_eq_zero (by simpa using hown.1)
    subst hx
    by_cases hm : m = 0
    · subst hm
      have hn : news = [] := List.eq_nil_of_length_eq_zero (by simpa using hl)
      subst hn
      refine ⟨.slice none 0 0, w, ?_, OwnsR.nil _ _ _, World.grownBy.refl w _, .inl rfl⟩
      rcases hdx with rfl | ⟨e', rfl⟩ <;> (simp [Builtin.append_, run_underlying ht, run_underlying hux, sizeOf, typeInfo, hi, hsi, hlen, hc0])
    · exact grow none 0 rfl (by omega) (by simp [Builtin.firstCells])
  · by_cases hroom : n + m ≤ cap
    · have hle : off + n * es + news.length ≤ cur.size := by
        have : (n + m) * es ≤ cap * es := Nat.mul_le_mul_right _ hroom
        rw [Nat.add_mul] at this
        rw [hl]
        omega
      have hst := run_storeCells_g P g (off + n * es) e fz news 0 cur w hg hfz (by simpa using hle) h1
      simp only [Nat.add_zero] at hst
      have htl : (cur.toList.take (off + n * es)).length = off + n * es := by rw [List.length_take]; simp; omega
      refine ⟨.slice (some ⟨g, off, none⟩) (n + m) cap, w.setRow g (cur.toList.take (off + n * es) ++ news ++ cur.toList.drop (off + n * es + news.length)).toArray, ?_, ⟨hlen', .inr ⟨g, off, cap, (cur.toList.take (off + n * es) ++ news ++ cur.toList.drop (off + n * es + news.length)).toArray, fz, rfl, setRow_heap w g cur _ e fz hg, ?_, hroom, hcm, ?_, ?_⟩⟩, ⟨rfl, rfl, rfl, by simp, fun k _ hk => setRow_other w g _ k fun e => hk (by rw [e]; rfl)⟩, .inl rfl⟩
      · rcases hdx with rfl | ⟨e', rfl⟩ <;> (simp [Builtin.append_, run_underlying ht, run_underlying hux, sizeOf, typeInfo, hi, hsi, hlen, hc0, hroom, add_lit0, hst])
      · rcases hfz with h | h
        · exact .inl h
        · right
          simp only [List.size_toArray, List.length_append, htl, List.length_drop, Array.length_toList]
          omega
      · simp only [List.size_toArray, List.length_append, htl, List.length_drop, Array.length_toList]
        omega
      · have hdt : (cur.toList.take (off + n * es)).drop off = xs := by
          rw [← htake, List.drop_take]
          congr 1
          omega
        rw [List.toList_toArray, List.append_assoc, List.drop_append_of_le_length (by rw [htl]; omega), hdt, ← List.append_assoc, ← hlen']
        exact List.take_left
    · refine grow _ cap rfl (by omega) ?_
      refine run_firstCells_some (P := P) w.drew es n _ n cap xs hown.1 fun j u hu => ?_
      rw [add_lit0]
      rw [← htake, List.getElem?_take] at hu
      split at hu
      · rw [List.getElem?_drop] at hu
        show w.cell? ⟨g, off + j, none⟩ = some u
        rw [cell_of_row w g (off + j) cur e fz hg]
        simpa using hu
      · cases hu
end Go.Proofs.Ytmkpgcahmbancaa.Ab
namespace Go.Proofs.Ytmkpgcahmbancaa.Ab
set_option linter.unusedSimpArgs false
set_option linter.unusedVariables false
open Go.RowKit

/-! ### Cells that go into a row -/
/-- The trees that values become in a row; the objects that go over into it; whether the row owns all that is in it. -/
def cvt (lk : Nat → Option (Nat × Ob)) : List V → Option (List T × List (Nat × Nat) × Bool)
  | [] => some ([], [], true)
  | .t x :: r => match cvt lk r with
    | some (ts, ks, d) => some (x :: ts, ks, (match x with | .lst .. => false | _ => d))
    | none => none
  | .hnd o ep :: r => match lk o, cvt lk r with
    | some (ep', .row fl d' e els), some (ts, ks, d) => if ep' = ep then some (.lst fl e els :: ts, (o, ep) :: ks, d && d') else none
    | _, _ => none
  | _ => none
section
variable {P : Program} {B : Nat → Prop} {W : En} {st : St} {a : Act} {w : World} {pl : Nat → Value} {F : Nat → Nat → Prop}
/-- What is known of trees that stand behind values, with the objects ks. -/
structure Cv (P : Program) (B : Nat → Prop) (W : En) (st : St) (w : World) (F : Nat → Nat → Prop) (ts : List T) (us : List Value) (ks : List (Nat × Nat)) (d : Bool) : Prop where
  len : us.length = ts.length
  one : ∀ u ∈ us, u.oneCell' = true
  rd : ∀ (k : Nat) (x : T) (u : Value), ts[k]? = some x → us[k]? = some u → Rd P w (fun b => Free B W.o (look st.objs) F w b ∨ ∃ o e y, (o, e) ∈ ks ∧ look st.objs o = some y ∧ F o b) x u
  own : d = true → ∃ fs : Nat → Nat → Prop, (∀ (k : Nat) (x : T) (u : Value), ts[k]? = some x → us[k]? = some u → Ow P w x u (fs k)) ∧ (∀ k b, fs k b → ∃ o e y, (o, e) ∈ ks ∧ look st.objs o = some y ∧ F o b) ∧ ∀ k k' b, k ≠ k' → fs k b → ¬ fs k' b
  live : ∀ o e, (o, e) ∈ ks → ∃ b, look st.objs o = some (e, b)
theorem SimW.cvt (h : SimW P B W st a w pl F) : ∀ {vs : List V} {us : List Value} {ts : List T} {ks : List (Nat × Nat)} {d : Bool}, Pw (C0 P w (look st.objs) pl (Free B W.o (look st.objs) F w)) vs us → cvt (look st.objs) vs = some (ts, ks, d) → (ks.map (·.1)).Nodup → Cv P B W st w F ts us ks d
  | [], us, ts, ks, d, hp, hc, _ => by
    cases hc
    have : us = [] := List.eq_nil_of_length_eq_zero hp.1
    subst this
    exact ⟨rfl, by simp, fun k x u h => by simp at h, fun _ => ⟨fun _ _ => False, fun k x u h => by simp at h, fun _ _ h => h.elim, fun _ _ _ _ h => h.elim⟩, fun o e h => by cases h⟩
  | _ :: _, [], _, _, _, hp, _, _ => by have := hp.1; simp at this
  | v :: r, u :: us, ts, ks, d, hp, hc, hn => by
    have hr : Pw (C0 P w (look st.objs) pl (Free B W.o (look st.objs) F w)) r us := ⟨by have := hp.1; simpa using this, fun k x v hx hv => hp.2 (k + 1) x v (by simpa using hx) (by simpa using hv)⟩
    have hv := hp.2 0 v u rfl rfl
    cases v with
    | t x =>
      unfold Ab.cvt at hc
      split at hc
      · rename_i ts' ks' d' hc'
        cases hc
        have ih := h.cvt hr hc' hn
        have hx : Rd P w (Free B W.o (look st.objs) F w) x u := hv
        refine ⟨by simp [ih.len], fun y hy => ?_, fun k y z hy hz => ?_, fun hd => ?_, ih.live⟩
        · rcases List.mem_cons.1 hy with rfl | hy
          · exact hx.one
          · exact ih.one y hy
        · cases k with
          | zero => simp at hy hz; subst hy hz; exact hx.mono (fun b hb => .inl hb) fun _ _ => rfl
          | succ k => exact ih.rd k y z (by simpa using hy) (by simpa using hz)
        · have hd' : d' = true ∧ ∀ fl e els, x ≠ .lst fl e els := by
            cases x <;> first | (exact ⟨hd, fun _ _ _ h => by cases h⟩) | cases hd
          obtain ⟨fs, g1, g2, g3⟩ := ih.own hd'.1
          refine ⟨fun k b => match k with | 0 => False | k + 1 => fs k b, fun k y z hy hz => ?_, fun k b hb => ?_, fun k k' b hne hb => ?_⟩
          · cases k with
            | zero =>
              simp at hy hz
              subst hy hz
              cases x with
              | nil => cases hx; exact .nil fun _ h => h
              | lst fl e els => exact absurd rfl (hd'.2 fl e els)
              | int => exact .flat rfl (hx.flat rfl) fun _ h => h
              | bool => exact .flat rfl (hx.flat rfl) fun _ h => h
              | str => exact .flat rfl (hx.flat rfl) fun _ h => h
            | succ k => exact g1 k y z (by simpa using hy) (by simpa using hz)
          · cases k with
            | zero => exact hb.elim
            | succ k => exact g2 k b hb
          · cases k with
            | zero => exact hb.elim
            | succ k =>
              cases k' with
              | zero => exact fun h => h
              | succ k' => exact g3 k k' b (by omega) hb
      · cases hc
    | hnd o ep =>
      unfold Ab.cvt at hc
      split at hc
      · rename_i ep' fl d' e els ts' ks' d'' hl hc'
        split at hc
        · rename_i he
          subst he
          cases hc
          rw [List.map_cons, List.nodup_cons] at hn
          have ih := h.cvt hr hc' hn.2
          obtain ⟨hone, ep2, ob, h2, h3, h4⟩ : C0 P w (look st.objs) pl (Free B W.o (look st.objs) F w) (.hnd o ep') u := hv
          rw [hl] at h2
          cases h2
          have hu := (h4 rfl).2
          obtain ⟨us', hrow⟩ := row_parts (h.objs o _ _ hl)
          refine ⟨by simp [ih.len], fun y hy => ?_, fun k y z hy hz => ?_, fun hd => ?_, fun i e' hi => ?_⟩
          · rcases List.mem_cons.1 hy with rfl | hy
            · exact hone
            · exact ih.one y hy
          · cases k with
            | zero =>
              simp at hy hz
              subst hy hz
              obtain ⟨A, c, g1, g2, g3, g4⟩ := hrow.slice
              rw [hu, g1]
              refine .lst us' g2 g3 hrow.uni hrow.flt hrow.len (fun hn => ?_) fun k x u hx hv => (hrow.rd k x u hx hv).mono (fun b hb => ?_) fun _ _ => rfl
              · obtain ⟨g, off, rfl, g5, _, g6⟩ := g4 hn
                exact ⟨_, rfl, .inr ⟨o, ep', _, by simp, hl, hrow.top _ g5⟩, fun k u hk => by rw [add_lit0]; exact g6 k u hk⟩
              · rcases hb with hb | hb
                · exact .inr ⟨o, ep', _, by simp, hl, hb⟩
                · exact .inl hb
            | succ k =>
              refine (ih.rd k y z (by simpa using hy) (by simpa using hz)).mono (fun b hb => ?_) fun _ _ => rfl
              rcases hb with hb | ⟨i, e', y', h1, h2⟩
              · exact .inl hb
              · exact .inr ⟨i, e', y', by simp [h1], h2⟩
          · simp only [Bool.and_eq_true] at hd
            obtain ⟨hd1, hd2⟩ := hd
            subst hd2
            obtain ⟨fs, g1, g2, g3⟩ := ih.own hd1
            have hrow' : Ow P w (.lst fl e els) (pl o) (F o) := by
              rcases h.objs o _ _ hl with ⟨_, h5⟩ | ⟨h5, _⟩
              · exact h5
              · cases h5
            have hap : ∀ k b, F o b → ¬ fs k b := fun k b hb hf => by
              obtain ⟨i, e', y', h1, h2, h3⟩ := g2 k b hf
              refine h.apart o i _ _ b ?_ hl h2 hb h3
              rintro rfl
              exact hn.1 (List.mem_map.2 ⟨_, h1, rfl⟩)
            refine ⟨fun k b => match k with | 0 => F o b | k + 1 => fs k b, fun k y z hy hz => ?_, fun k b hb => ?_, fun k k' b hne hb => ?_⟩
            · cases k with
              | zero => simp at hy hz; subst hy hz; rw [hu]; exact hrow'
              | succ k => exact g1 k y z (by simpa using hy) (by simpa using hz)
            · cases k with
              | zero => exact ⟨o, ep', _, by simp, hl, hb⟩
              | succ k =>
                obtain ⟨i, e', y', h1, h2⟩ := g2 k b hb
                exact ⟨i, e', y', by simp [h1], h2⟩
            · cases k with
              | zero =>
                cases k' with
                | zero => omega
                | succ k' => exact hap k' b hb
              | succ k =>
                cases k' with
                | zero => exact fun hf => hap k b hf hb
                | succ k' => exact g3 k k' b (by omega) hb
          · rcases List.mem_cons.1 hi with h5 | h5
            · cases h5; exact ⟨_, hl⟩
            · exact ih.live i e' h5
        · cases hc
      · cases hc
    | _ => cases hc
end
def unflat {α : Type} (es : Nat) : Nat → List α → List (List α)
  | 0, _ => []
  | n + 1, ts => ts.take es :: unflat es n (ts.drop es)
/-- A row's relation out of its cells. -/
theorem mk_row {P : Program} {w' : World} {CC : V → Value → Prop} {Fr' : Nat → Prop} {v' : Value} {F' : Nat → Prop} {fl d : Bool} {e : TypeId} {els : List (List T)} {us : List Value} (h1 : OwnsR w' e (P.cellsOf e) v' els.length us) (h2 : ∀ x ∈ els, x.length = P.cellsOf e) (h3 : fl = true → ∀ x ∈ els.flatten, x.flat = true) (h4 : els.flatten.length = us.length)
    (hs : d = false → (∀ (k : Nat) (x : T) (u : Value), els.flatten[k]? = some x → us[k]? = some u → Rd P w' Fr' x u) ∧ ∀ b, F' b ↔ v'.ownBlock = some b)
    (ho : d = true → ∃ fs : Nat → Nat → Prop, (∀ (k : Nat) (x : T) (u : Value), els.flatten[k]? = some x → us[k]? = some u → Ow P w' x u (fs k)) ∧ (∀ k k' b, k ≠ k' → fs k b → ¬ fs k' b) ∧ (∀ k b, fs k b → v'.ownBlock ≠ some b) ∧ ∀ b, F' b ↔ (v'.ownBlock = some b ∨ ∃ k, fs k b)) :
    ObR P w' CC (Rd P w' Fr') v' F' (.row fl d e els) := by
  cases d with
  | false =>
    obtain ⟨g1, g2⟩ := hs rfl
    exact .inr ⟨rfl, us, h1, h2, h3, h4, g1, g2⟩
  | true =>
    obtain ⟨fs, g1, g2, g3, g4⟩ := ho rfl
    exact .inl ⟨rfl, .lst us fs h1 h2 h3 h4 g1 g2 g3 g4⟩
end Go.Proofs.Ytmkpgcahmbancaa.Ab
namespace Go.Proofs.Ytmkpgcahmbancaa.Ab
set_option linter.unusedSimpArgs false
set_option linter.unusedVariables false
open Go.RowKit Go.Lib

section
variable {P : Program} {B : Nat → Prop} {W : En} {o : Oper} {st : St} {KE : V → List (Nat × Nat × Ob) → Prop}
/-- A new row out of converted cells. -/
theorem OpS.newrow {site ep e : Nat} {fl d : Bool} {els : List (List T)} {ks : List (Nat × Nat)} (hep : nep (look st.objs site) = ep) (hks : ∀ x e, (x, e) ∈ ks → x ≠ site) (hu : ∀ x ∈ els, x.length = P.cellsOf e) (hfl : fl = true → ∀ x ∈ els.flatten, x.flat = true) (hK : KE (.hnd site ep) ((site, ep, .row fl d e els) :: kills ks))
    (h : ∀ a w pl F, SimW P B W st a w pl F → ∃ (us : List Value) (u : Value) (w' : World), (execOp a.eval o).run P w = .ok (.value u) w' ∧ Below w.heap.size w w' ∧ OwnsR w' e (P.cellsOf e) u els.length us ∧ (∀ b, u.ownBlock = some b → w.heap.size ≤ b ∧ b < w'.heap.size) ∧ Cv P B W st w F els.flatten us ks d) : OpS P B W o st KE := by
  subst hep
  have hlive : ∀ a w pl F, SimW P B W st a w pl F → ∀ x e, (x, e) ∈ ks → ∃ b, look st.objs x = some (e, b) := fun a w pl F hs => by
    obtain ⟨us, u, w', _, _, _, _, hc⟩ := h a w pl F hs
    exact hc.live
  intro a w pl0 F0 hs0 next Q hn
  refine OpS.chg (P := P) (B := B) (W := W) (o := o) (st := st) (KE := KE) (ks := ks) (i := site) (ep := nep (look st.objs site)) hK (fun x e hx => ⟨hks x e hx, hlive a w pl0 F0 hs0 x e hx⟩) (fun a w pl F hs => ?_) a w pl0 F0 hs0 next Q hn
  obtain ⟨us, u, w', hr, hb, hown, htop, hc⟩ := h a w pl F hs
  have hown' := hown
  have hone : u.oneCell' = true := by obtain ⟨A, c, rfl, _⟩ := ownsRow_slice hown; rfl
  have hKlt : ∀ o e y b, (o, e) ∈ ks → look st.objs o = some y → F o b → b < w.heap.size := fun o e y b _ hl hf => (hs.range o y b hl hf).2
  have hkeep : ∀ b, b < w.heap.size → w'.heap[b]? = w.heap[b]? := fun b hlt => hb.block b hlt
  cases d with
  | false =>
    refine ⟨_, w', u, fun b => u.ownBlock = some b, u, hr, .inl rfl, Below.kp hb hs.below.size, fun b hlt _ => hkeep b hlt, fun ep0 ob0 h0 => .inl (nep_lt h0), fun _ => nep_pos _, fun b hb => .inl (htop b hb), fun lk' pl' Fr' g hg e1 e2 => ⟨?_, hone, _, _, e1, Nat.le_refl _, fun _ => ⟨rfl, e2.symm⟩⟩⟩
    refine mk_row hown' hu hfl hc.len.symm (fun _ => ⟨fun k x v hx hv => (hc.rd k x v hx hv).mono (fun b hb => ?_) fun b hb => ?_, fun b => Iff.rfl⟩) fun h => by cases h
    · rcases hb with hb | ⟨i, e', y, h1, h2, h3⟩
      · exact g.more b hb
      · refine hg b (.inr ⟨i, y, hks i e' h1, ⟨e', h1⟩, h2, h3⟩) fun ht => ?_
        have := (htop b ht).1
        have := hKlt i e' y b h1 h2 h3
        omega
    · rcases hb with hb | ⟨i, e', y, h1, h2, h3⟩
      · exact hkeep b hb.2.1
      · exact hkeep b (hKlt i e' y b h1 h2 h3)
  | true =>
    obtain ⟨fs, g1, g2, g3⟩ := hc.own rfl
    have hfs : ∀ k b, fs k b → b < w.heap.size := fun k b hf => by
      obtain ⟨i, e', y, h1, h2, h3⟩ := g2 k b hf
      exact hKlt i e' y b h1 h2 h3
    refine ⟨_, w', u, fun b => u.ownBlock = some b ∨ ∃ k, fs k b, u, hr, .inl rfl, Below.kp hb hs.below.size, fun b hlt _ => hkeep b hlt, fun ep0 ob0 h0 => .inl (nep_lt h0), fun _ => nep_pos _, fun b hb => ?_, fun lk' pl' Fr' g hg e1 e2 => ⟨?_, hone, _, _, e1, Nat.le_refl _, fun _ => ⟨rfl, e2.symm⟩⟩⟩
    · rcases hb with hb | ⟨k, hk⟩
      · exact .inl (htop b hb)
      · obtain ⟨i, e', y, h1, h2, h3⟩ := g2 k b hk
        exact .inr (.inr ⟨i, y, hks i e' h1, ⟨e', h1⟩, h2, h3⟩)
    · refine mk_row hown' hu hfl hc.len.symm (fun h => by cases h) fun _ => ⟨fs, fun k x v hx hv => (g1 k x v hx hv).keep fun b hb => hkeep b (hfs k b hb), g3, fun k b hb ht => ?_, fun b => Iff.rfl⟩
      have := (htop b ht).1
      have := hfs k b hb
      omega
theorem cv_flat {w : World} {F : Nat → Nat → Prop} {ts : List T} {us : List Value} (hp : Pw (Rd P w (Free B W.o (look st.objs) F w)) ts us) (hf : ∀ x ∈ ts, x.flat = true) (d : Bool) : Cv P B W st w F ts us [] d :=
  ⟨hp.1, fun u hu => by
    obtain ⟨k, hk, rfl⟩ := List.getElem_of_mem hu
    have hlt : k < ts.length := by rw [← hp.1]; exact hk
    exact (hp.2 k _ _ (List.getElem?_eq_getElem hlt) (List.getElem?_eq_getElem hk)).one, fun k x u hx hu => (hp.2 k x u hx hu).mono (fun b hb => .inl hb) fun _ _ => rfl,
    fun _ => ⟨fun _ _ => False, fun k x u hx hu => .flat (hf _ (List.mem_of_getElem? hx)) ((hp.2 k x u hx hu).flat (hf _ (List.mem_of_getElem? hx))) fun _ h => h, fun _ _ h => h.elim, fun _ _ _ _ h => h.elim⟩, fun o e h => (by cases h)⟩
theorem cv_shared {w : World} {F : Nat → Nat → Prop} {ts : List T} {us : List Value} (hp : Pw (Rd P w (Free B W.o (look st.objs) F w)) ts us) : Cv P B W st w F ts us [] false :=
  ⟨hp.1, fun u hu => by
    obtain ⟨k, hk, rfl⟩ := List.getElem_of_mem hu
    have hlt : k < ts.length := by rw [← hp.1]; exact hk
    exact (hp.2 k _ _ (List.getElem?_eq_getElem hlt) (List.getElem?_eq_getElem hk)).one, fun k x u hx hu => (hp.2 k x u hx hu).mono (fun b hb => .inl hb) fun _ _ => rfl, fun h => (by cases h), fun o e h => (by cases h)⟩

/-! ### Slice literals -/
theorem OpS.buildSlice {t : TypeId} {len : Nat} {parts : Array (Nat × Operand)} {xs : List Operand} {y ye : Ty} {e es eb site ep : Nat} {zs : List V} {ts : List T} {ks : List (Nat × Nat)} {d fl : Bool} {els : List (List T)} {vs : List V}
    (ho : o.op = .buildSlice t len parts) (hd : o.dst = some site) (hparts : parts.toList = (xs.zipIdx 0).map fun p => (p.2, p.1)) (hlen : xs.length = len) (hy : tinfo P t = some y) (hk : y.k = .slice e es eb) (hye : tinfo P e = some ye) (hz : ye.zero = some zs) (hzl : zs.length = es) (hes : 0 < es) (hsm : len * es ≤ 16777216)
    (hvs : xs.map st.ev = vs) (hsto : vs.all (fun v => (cellsV v).all V.sto && decide ((cellsV v).length = es)) = true) (hcv : cvt (look st.objs) (vs.flatMap cellsV) = some (ts, ks, d)) (hnd : (ks.map (·.1)).Nodup) (hks : ∀ x e, (x, e) ∈ ks → x ≠ site)
    (hel : els.flatten = ts) (hell : els.length = len) (hu : ∀ x ∈ els, x.length = es) (hfl : ts.all T.flat = fl) (hep : nep (look st.objs site) = ep) (hK : KE (.hnd site ep) ((site, ep, .row fl d e els) :: kills ks)) : OpS P B W o st KE := by
  obtain ⟨ht, hes', heb⟩ := slice_t hy hk
  have hsto' : ∀ v ∈ vs, (cellsV v).all V.sto = true ∧ (cellsV v).length = es := fun v hv => by
    have := List.all_eq_true.1 hsto v hv
    rw [Bool.and_eq_true] at this
    exact ⟨this.1, of_decide_eq_true this.2⟩
  refine OpS.newrow hep hks (by rw [hes']; exact hu) (fun h => by rw [← hfl] at h; rw [hel]; exact List.all_eq_true.1 h) hK fun a w pl F hs => ?_
  obtain ⟨de, i, hue, hi, _, hsz, hby, hzero⟩ := tinfo_parts hye
  have hsi : i.size = es := by rw [← hes']; simp [Program.cellsOf, hi]
  rw [hz] at hzero
  obtain ⟨z, hz1, hz2⟩ := Option.map_eq_some_iff.1 hzero.symm
  have hzs : z.cells.size = es := by rw [← hzl, ← hz2]; simp
  -- the values' cells
  have hcells : ∀ (l : List Operand), (∀ x ∈ l, st.ev x ∈ vs) → ∃ us : List Value, (l.map a.eval).flatMap (fun v => v.cells.toList) = us ∧ Pw (C0 P w (look st.objs) pl (Free B W.o (look st.objs) F w)) ((l.map st.ev).flatMap cellsV) us ∧ ∀ v ∈ l.map a.eval, v.cells.size = es := by
    intro l
    induction l with
    | nil => intro _; exact ⟨[], rfl, Pw.nil, by simp⟩
    | cons x l ih =>
      intro hl
      obtain ⟨us, h1, h2, h3⟩ := ih fun y hy => hl y (by simp [hy])
      obtain ⟨g1, g2⟩ := hsto' (st.ev x) (hl x (by simp))
      obtain ⟨us', h4, h5, h6⟩ := ((hs.ev x).c1 g1).cells g1
      have hlen5 : us'.length = es := by rw [h5.1, g2]
      refine ⟨us' ++ us, by simp only [List.map_cons, List.flatMap_cons, h1, h4], by simpa [List.map_cons, List.flatMap_cons] using h5.append h2, fun v hv => ?_⟩
      rw [List.map_cons] at hv
      rcases List.mem_cons.1 hv with rfl | hv
      · rw [h4]; simpa using hlen5
      · exact h3 v hv
  obtain ⟨us, hu1, hu2, hu3⟩ := hcells xs fun x hx => by rw [← hvs]; exact List.mem_map_of_mem hx
  rw [hvs] at hu2
  have hc := hs.cvt hu2 hcv hnd
  have hulen : us.length = len * es := by
    rw [hc.len, ← hel, flatten_len hu, hell]
  have hpl : (parts.map fun x => (x.1, a.eval x.2)).toList = ((xs.map a.eval).zipIdx 0).map fun p => (p.2, p.1) := by
    rw [Array.toList_map, hparts, List.map_map, List.zipIdx_map, List.map_map]
    rfl
  by_cases hl0 : len = 0
  · subst hl0
    have hx0 : xs = [] := List.eq_nil_of_length_eq_zero hlen
    subst hx0
    have hus : us = [] := List.eq_nil_of_length_eq_zero (by simpa using hulen)
    subst hus
    refine ⟨[], .slice (some ⟨w.heap.size, 0, none⟩) 0 0, w.alloc (.cells #[] e), ?_, below_alloc w _, ?_, fun b hb => (by cases hb; simp), by rw [hel]; exact hc⟩
    · unfold execOp
      rw [ho]
      refine exec_value ?_
      have hp0 : parts = #[] := by
        have : parts.toList = [] := hparts
        simpa using this
      subst hp0
      simp [Instr.buildSlice, run_underlying ht, sizeOf, typeInfo, hi, Instr.fill, newRow]
      congr 2
      exact Array.eq_empty_of_size_eq_zero (by simp)
    · rw [hell]
      exact ⟨by simp, .inr ⟨w.heap.size, 0, 0, #[], (0, 0), rfl, heap_alloc_new w _, .inl rfl, Nat.le_refl _, by simp [maxLen], by simp, by simp⟩⟩
  · have hfill := Great.fill_whole hes (xs.map a.eval) ((Array.range (len * i.size)).map (z.cells[· % z.cells.size]!)) hu3 (by simp [hsi, hlen])
    rw [← hpl, hu1] at hfill
    rw [← hsi] at hfill
    refine ⟨us, .slice (some ⟨w.heap.size, 0, none⟩) len len, w.alloc (.cells us.toArray e), ?_, below_alloc w _, ?_, fun b hb => (by cases hb; simp), by rw [hel]; exact hc⟩
    · unfold execOp
      rw [ho]
      refine exec_value ?_
      exact run_buildSlice w t e len _ us.toArray i z ht hi hz1 (by rw [hsi]; omega) (by rw [hsi]; exact Nat.ne_of_gt (Nat.mul_pos (by omega) hes)) hfill
    · rw [hell, hes']
      have hlm : len ≤ maxLen := by
        have : len ≤ len * es := Nat.le_mul_of_pos_right _ hes
        have hm : (16777216 : Nat) ≤ maxLen := by decide
        omega
      exact ⟨hulen, .inr ⟨w.heap.size, 0, len, us.toArray, (0, 0), rfl, heap_alloc_new w _, .inl rfl, Nat.le_refl _, hlm, by simp [hulen], by rw [← hulen]; simp⟩⟩
/-! ### Append -/
/-- The source of an append, read. -/
def SrcOk (P : Program) (B : Nat → Prop) (W : En) (st : St) (a : Act) (w : World) (F : Nat → Nat → Prop) (x : Operand) (es : Nat) (els : List (List T)) (ks : List (Nat × Nat)) (d : Bool) : Prop :=
  ∃ us : List Value, (Builtin.lenOf (a.eval x)).run P w = .ok els.length w ∧ (∀ k, (Builtin.firstCells es els.length (a.eval x)).run P (w.drewN k) = .ok us.toArray (w.drewN k)) ∧ els.length ≤ maxLen ∧ Cv P B W st w F els.flatten us ks d
theorem firstCells_mem {w : World} {B : Nat → Prop} {A : Option Addr} {n c es : Nat} {us : List Value} (h : Mem w B A us) (hl : us.length = n * es) (k : Nat) : (Builtin.firstCells es n (.slice A n c)).run P (w.drewN k) = .ok us.toArray (w.drewN k) := by
  by_cases hn : us = []
  · subst hn
    cases A with
    | none => simp [Builtin.firstCells]
    | some ad =>
      have h0 : n * es = 0 := by simpa using hl.symm
      simp [Builtin.firstCells, h0, loadCells, loadCellsFrom]
  · obtain ⟨ad, rfl, _, hc⟩ := h hn
    exact run_firstCells_some (P := P) (w.drewN k) es n ad n c us hl hc
section
variable {a : Act} {w : World} {pl : Nat → Value} {F : Nat → Nat → Prop}
theorem SimW.src_lst (h : SimW P B W st a w pl F) {x : Operand} {fl : Bool} {e : TypeId} {els : List (List T)} (hx : st.ev x = .t (.lst fl e els)) : SrcOk P B W st a w F x (P.cellsOf e) els [] fl := by
  obtain ⟨A, c, us, h1, h2, h3, h4, h5, h6, h7, h8⟩ := h.lst_at hx
  have hl : us.length = els.length * P.cellsOf e := by rw [← h6, flatten_len h4]
  refine ⟨us, by rw [h1]; rfl, fun k => by rw [h1]; exact firstCells_mem h7 hl k, Nat.le_trans h2 h3, ?_⟩
  cases fl with
  | true => exact cv_flat ⟨h6.symm, h8⟩ (h5 rfl) _
  | false => exact cv_shared ⟨h6.symm, h8⟩
theorem SimW.src_nil (h : SimW P B W st a w pl F) {x : Operand} (hx : st.ev x = .t .nil) (es : Nat) : SrcOk P B W st a w F x es [] [] true := by
  have h1 := h.nil_at hx
  exact ⟨[], by rw [h1]; rfl, fun k => by rw [h1]; simp [Builtin.firstCells], by simp, cv_flat ⟨rfl, fun k x u h => by simp at h⟩ (by simp) _⟩
theorem SimW.src_str (h : SimW P B W st a w pl F) {x : Operand} {s : List UInt8} (hx : st.ev x = .t (.str s)) : SrcOk P B W st a w F x 1 (s.map fun c => [.int .u8 (c.toNat : Nat)]) [] true := by
  obtain ⟨h1, h2⟩ := h.str_at hx
  have hfl : (s.map fun c => [T.int .u8 (c.toNat : Nat)]).flatten = s.map fun c => T.int .u8 (c.toNat : Nat) := by
    induction s with
    | nil => rfl
    | cons c s ih =>
      rw [List.map_cons, List.flatten_cons, List.map_cons, List.singleton_append]
      congr 1
      clear hx h1 h2 ih
      induction s with
      | nil => rfl
      | cons c s ih => simp [ih]
  refine ⟨strCells (bs s), by rw [h1]; simp [Builtin.lenOf, bs_size], fun k => ?_, by simpa using h2, ?_⟩
  · rw [h1, List.length_map]
    have := run_firstCells_string (P := P) (w.drewN k) 1 (bs s)
    rw [bs_size] at this
    exact this
  · rw [hfl]
    have hsc : strCells (bs s) = s.map fun c => Value.int .u8 (c.toNat : Nat) := by simp [strCells, bs]
    rw [hsc]
    refine cv_flat ⟨by simp, fun k x u hx hu => ?_⟩ (fun x hx => ?_) _
    · rw [List.getElem?_map, Option.map_eq_some_iff] at hx hu
      obtain ⟨c, hc, rfl⟩ := hx
      obtain ⟨c', hc', rfl⟩ := hu
      rw [hc] at hc'
      cases hc'
      exact Rd.int (wf_u8 c)
    · obtain ⟨c, _, rfl⟩ := List.mem_map.1 hx
      rfl
theorem SimW.src_hnd (h : SimW P B W st a w pl F) {x : Operand} {i ep : Nat} {fl d : Bool} {e : TypeId} {els : List (List T)} (hx : st.ev x = .hnd i ep) (hl : look st.objs i = some (ep, .row fl d e els)) (hf : fl = true ∨ d = false) : SrcOk P B W st a w F x (P.cellsOf e) els [] fl := by
  obtain ⟨g1, us, hp⟩ := h.hnd_at hx hl
  obtain ⟨A, c, g2, g3, g4, g5⟩ := hp.slice
  have hlen : us.length = els.length * P.cellsOf e := by rw [← hp.len, flatten_len hp.uni]
  have hm : Mem w (fun _ => True) A us := fun hn => by
    obtain ⟨g, off, rfl, _, _, h6⟩ := g5 hn
    exact ⟨_, rfl, trivial, fun k u hk => by rw [add_lit0]; exact h6 k u hk⟩
  refine ⟨us, by rw [g1, g2]; rfl, fun k => by rw [g1, g2]; exact firstCells_mem hm hlen k, Nat.le_trans g3 g4, ?_⟩
  cases fl with
  | true => exact cv_flat ⟨hp.len.symm, fun k x u hx hu => (hp.rd k x u hx hu).flat (hp.flt rfl _ (List.mem_of_getElem? hx))⟩ (hp.flt rfl) _
  | false =>
    have hd : d = false := hf.resolve_left (by simp)
    exact cv_shared ⟨hp.len.symm, hp.shr hd⟩
/-- A row that goes over whole, with all that it owns. -/
theorem SimW.src_move (h : SimW P B W st a w pl F) {x : Operand} {i ep : Nat} {fl : Bool} {e : TypeId} {els : List (List T)} (hx : st.ev x = .hnd i ep) (hl : look st.objs i = some (ep, .row fl true e els)) : SrcOk P B W st a w F x (P.cellsOf e) els [(i, ep)] true := by
  obtain ⟨g1, us0, hp⟩ := h.hnd_at hx hl
  rcases h.objs i _ _ hl with ⟨_, h5⟩ | ⟨h5, _⟩
  · cases h5 with
    | flat hf => cases hf
    | lst us fs q1 q2 q3 q4 q5 q6 q7 q8 =>
      obtain ⟨A, c, g2, g3, g4, g5⟩ := ownsRow_slice q1
      have hlen : us.length = els.length * P.cellsOf e := by rw [← q4, flatten_len q2]
      have hm : Mem w (fun _ => True) A us := fun hn => by
        obtain ⟨g, off, rfl, _, _, h6⟩ := g5 hn
        exact ⟨_, rfl, trivial, fun k u hk => by rw [add_lit0]; exact h6 k u hk⟩
      refine ⟨us, by rw [g1, g2]; rfl, fun k => by rw [g1, g2]; exact firstCells_mem hm hlen k, Nat.le_trans g3 g4, ⟨q4.symm, fun u hu => ?_, fun k x u hx hu => ?_, fun _ => ⟨fs, q5, fun k b hb => ⟨i, ep, _, by simp, hl, (q8 b).2 (.inr ⟨k, hb⟩)⟩, q6⟩, fun o e' ho => ?_⟩⟩
      · obtain ⟨k, hk, rfl⟩ := List.getElem_of_mem hu
        have hlt : k < els.flatten.length := by rw [q4]; exact hk
        exact (q5 k _ _ (List.getElem?_eq_getElem hlt) (List.getElem?_eq_getElem hk)).one
      · exact (q5 k x u hx hu).rd fun b hb => .inr ⟨i, ep, _, by simp, hl, (q8 b).2 (.inr ⟨k, hb⟩)⟩
      · simp at ho; obtain ⟨rfl, rfl⟩ := ho; exact ⟨_, hl⟩
  · cases h5
end
theorem OwnsR.uniq {w : World} {e : TypeId} {size : Nat} {v : Value} {n n' : Nat} {xs xs' : List Value} (h : OwnsR w e size v n xs) (h' : OwnsR w e size v n' xs') : xs = xs' := by
  rcases h.2 with ⟨hv1, h0⟩ | ⟨gg, off, cap, cur, fz, hv1, hh1, _, _, _, _, ht1⟩
  · rcases h'.2 with ⟨hv2, h0'⟩ | ⟨gg', off', cap', cur', fz', hv2, _⟩
    · have e1 := h.1; have e2 := h'.1
      rw [h0, Nat.zero_mul] at e1
      rw [h0', Nat.zero_mul] at e2
      rw [List.eq_nil_of_length_eq_zero e1, List.eq_nil_of_length_eq_zero e2]
    · rw [hv1] at hv2; cases hv2
  · rcases h'.2 with ⟨hv2, _⟩ | ⟨gg', off', cap', cur', fz', hv2, hh2, _, _, _, _, ht2⟩
    · rw [hv1] at hv2; cases hv2
    · rw [hv1] at hv2
      cases hv2
      rw [hh1] at hh2
      cases hh2
      rw [← ht1, ← ht2]
theorem exec_append {s x : Operand} {c : Call} {t xt : TypeId} {a : Act} {w w' : World} {u : Value} (ho : o.op = .call c) (h1 : c.callee = .builtin .append) (h2 : c.args = #[s, x]) (h3 : c.argTypes = #[t, xt]) (hr : (Builtin.append_ #[t, xt] o.type #[a.eval s, a.eval x]).run P w = .ok u w') : (execOp a.eval o).run P w = .ok (.value u) w' := by
  unfold execOp
  rw [ho]
  simp [resolve, h1, h2, h3, invoke, builtin, hr]
theorem grown_below {w w' : World} {row : Option Nat} {N : Nat} (h : w.grownBy w' row) (hr : ∀ g, row = some g → N ≤ g) (hN : N ≤ w.heap.size) : Below N w w' :=
  ⟨h.os, h.tape, h.output, h.size, fun k hk => h.block k (by omega) fun e => by have := hr k e.symm; omega⟩
/-- What an append may take: the bytes of the new length. -/
def fits (n m eb : Nat) : Prop := (n + m) * eb ≤ 140737488355328 ∧ n + m ≤ 9223372036854775807
theorem OpS.append_nil {s x : Operand} {c : Call} {t xt e es eb site ep : Nat} {y yx ye : Ty} {zs : List V} {els : List (List T)} {ks : List (Nat × Nat)} {d fl : Bool} (ho : o.op = .call c) (hd : o.dst = some site) (h1 : c.callee = .builtin .append) (h2 : c.args = #[s, x]) (h3 : c.argTypes = #[t, xt])
    (hy : tinfo P t = some y) (hk : y.k = .slice e es eb) (hyx : tinfo P xt = some yx) (hkx : yx.k = .str ∨ ∃ a b c, yx.k = .slice a b c) (hye : tinfo P e = some ye) (hz : ye.zero = some zs) (hzl : zs.length = es) (hs : st.ev s = .t .nil)
    (hsrc : ∀ a w pl F, SimW P B W st a w pl F → SrcOk P B W st a w F x es els ks d) (hu : ∀ a w pl F, SimW P B W st a w pl F → (∀ x ∈ els, x.length = es) ∧ (fl = true → ∀ x ∈ els.flatten, x.flat = true)) (hks : ∀ x e, (x, e) ∈ ks → x ≠ site) (hfit : fits 0 els.length eb) (hep : nep (look st.objs site) = ep)
    (hK : KE (.hnd site ep) ((site, ep, .row fl d e els) :: kills ks)) : OpS P B W o st KE := fun a0 w0 pl0 F0 hS0 => by
  obtain ⟨ht, hes', heb⟩ := slice_t hy hk
  obtain ⟨hu1, hu2⟩ := hu a0 w0 pl0 F0 hS0
  refine OpS.newrow (els := els) hep hks (by rw [hes']; exact hu1) hu2 hK (fun a w pl F h => ?_) a0 w0 pl0 F0 hS0
  obtain ⟨us, q1, q2, q3, q4⟩ := hsrc a w pl F h
  have hlen : us.length = els.length * es := by rw [q4.len, flatten_len hu1]
  obtain ⟨v', w', r1, r2, r3, r4⟩ := run_append_g (P := P) w (ty := o.type) hy hk hyx hkx hye hz hzl (OwnsR.nil w e es) q1 q2 hlen q4.one (by have := hfit.2; simp only [maxLen]; omega) hfit.1
  rw [Nat.zero_add, List.nil_append] at r2
  exact ⟨us, v', w', exec_append ho h1 h2 h3 (by rw [h.nil_at hs]; exact r1), grown_below r3 (fun g hg => by cases hg) (Nat.le_refl _), by rw [hes']; exact r2, fun b hb => (by rcases r4 with r4 | ⟨r4, r5⟩ <;> rw [r4] at hb <;> cases hb; exact ⟨Nat.le_refl _, r5⟩), q4⟩
theorem OpS.append_hnd {s x : Operand} {c : Call} {t xt e e' es eb i ep : Nat} {y yx ye : Ty} {zs : List V} {els0 els : List (List T)} {ks : List (Nat × Nat)} {d0 d d' fl0 fl : Bool} (ho : o.op = .call c) (h1 : c.callee = .builtin .append) (h2 : c.args = #[s, x]) (h3 : c.argTypes = #[t, xt])
    (hy : tinfo P t = some y) (hk : y.k = .slice e es eb) (hyx : tinfo P xt = some yx) (hkx : yx.k = .str ∨ ∃ a b c, yx.k = .slice a b c) (hye : tinfo P e = some ye) (hz : ye.zero = some zs) (hzl : zs.length = es) (hs : st.ev s = .hnd i ep) (hl : look st.objs i = some (ep, .row fl0 d0 e' els0)) (he : e' = e)
    (hsrc : ∀ a w pl F, SimW P B W st a w pl F → SrcOk P B W st a w F x es els ks d) (hu : ∀ a w pl F, SimW P B W st a w pl F → (∀ x ∈ els, x.length = es) ∧ (fl = true → ∀ x ∈ els.flatten, x.flat = true)) (hks : ∀ x e, (x, e) ∈ ks → x ≠ i) (hfit : fits els0.length els.length eb) (hfl : fl = true → fl0 = true) (hd' : d' = true → d0 = true ∧ d = true)
    (hK : KE (.hnd i (ep + 1)) ((i, ep + 1, .row fl d' e (els0 ++ els)) :: kills ks)) : OpS P B W o st KE := fun a0 w0 pl0 F0 hS0 => by
  subst he
  obtain ⟨ht, hes', heb⟩ := slice_t hy hk
  obtain ⟨hu1, hu2⟩ := hu a0 w0 pl0 F0 hS0
  have hlive : ∀ x e, (x, e) ∈ ks → ∃ b, look st.objs x = some (e, b) := by
    obtain ⟨us, _, _, _, hc⟩ := hsrc a0 w0 pl0 F0 hS0
    exact hc.live
  refine OpS.chg (ks := ks) (i := i) (ep := ep + 1) hK (fun x e hx => ⟨hks x e hx, hlive x e hx⟩) (fun a w pl F h => ?_) a0 w0 pl0 F0 hS0
  obtain ⟨us, q1, q2, q3, q4⟩ := hsrc a w pl F h
  obtain ⟨g1, us0, hp⟩ := h.hnd_at hs hl
  have hown := hp.own
  rw [hes'] at hown
  have hlen : us.length = els.length * es := by rw [q4.len, flatten_len hu1]
  have hN : W.heap.size ≤ w.heap.size := h.below.size
  obtain ⟨v', w', r1, r2, r3, r4⟩ := run_append_g (P := P) w (ty := o.type) hy hk hyx hkx hye hz hzl hown q1 q2 hlen q4.one (by have := hfit.2; simp only [maxLen]; omega) hfit.1
  have hlt : ∀ b, F i b → W.o b ∧ b < w.heap.size := fun b hb => h.range i _ b hl hb
  have htop : ∀ b, v'.ownBlock = some b → (pl i).ownBlock = some b ∨ (b = w.heap.size ∧ w.heap.size < w'.heap.size) := fun b hb => by
    rcases r4 with r4 | ⟨r4, r5⟩
    · exact .inl (by rw [← r4]; exact hb)
    · rw [r4] at hb; cases hb; exact .inr ⟨rfl, r5⟩
  have hkeep : ∀ b, b < w.heap.size → (pl i).ownBlock ≠ some b → w'.heap[b]? = w.heap[b]? := fun b hb hne => r3.block b hb fun e => hne e.symm
  have hKF : ∀ o e y b, (o, e) ∈ ks → look st.objs o = some y → F o b → b < w.heap.size ∧ ¬ F i b := fun o e y b hk hl' hf => ⟨(h.range o y b hl' hf).2, fun hi => h.apart o i _ _ b (hks o e hk) hl' hl hf hi⟩
  have hone : v'.oneCell' = true := by obtain ⟨A, c, rfl, _⟩ := ownsRow_slice r2; rfl
  have hfu : (els0 ++ els).flatten = els0.flatten ++ els.flatten := List.flatten_append
  have hul : ∀ x ∈ els0 ++ els, x.length = P.cellsOf e' := fun x hx => by
    rcases List.mem_append.1 hx with hx | hx
    · exact hp.uni x hx
    · rw [hes']; exact hu1 x hx
  have hff : fl = true → ∀ x ∈ (els0 ++ els).flatten, x.flat = true := fun hf x hx => by
    rw [hfu] at hx
    rcases List.mem_append.1 hx with hx | hx
    · exact hp.flt (hfl hf) x hx
    · exact hu2 hf x hx
  have hll : (els0 ++ els).flatten.length = (us0 ++ us).length := by rw [hfu, List.length_append, List.length_append, hp.len, q4.len]
  have hown' : OwnsR w' e' (P.cellsOf e') v' (els0 ++ els).length (us0 ++ us) := by rw [hes', List.length_append]; exact r2
  have hbel : Kp W w w' := ⟨r3.os, r3.tape, r3.output, r3.size, fun k hk => by
    by_cases hkw : k < w.heap.size
    · exact r3.block k hkw fun e => hk (hlt k (hp.top k e.symm)).1
    · exact absurd (.inl (Nat.le_trans hN (Nat.le_of_not_lt hkw))) hk⟩
  have hch : ∀ b, b < w.heap.size → (∀ x, look st.objs i = some x → ¬ F i b) → w'.heap[b]? = w.heap[b]? := fun b hb hf => hkeep b hb fun ht' => hf _ hl (hp.top b ht')
  have hsplit : ∀ {Q : T → Value → Prop}, (∀ (k : Nat) (x : T) (u : Value), els0.flatten[k]? = some x → us0[k]? = some u → Q x u) → (∀ (k : Nat) (x : T) (u : Value), els.flatten[k]? = some x → us[k]? = some u → Q x u) →
      ∀ (k : Nat) (x : T) (u : Value), (els0 ++ els).flatten[k]? = some x → (us0 ++ us)[k]? = some u → Q x u := fun {Q} e1 e2 k x u hx hu => by
    rw [hfu] at hx
    by_cases hk : k < els0.flatten.length
    · rw [List.getElem?_append_left hk] at hx
      rw [List.getElem?_append_left (by rw [← hp.len]; exact hk)] at hu
      exact e1 k x u hx hu
    · rw [List.getElem?_append_right (by omega)] at hx
      rw [List.getElem?_append_right (by rw [← hp.len]; omega), ← hp.len] at hu
      exact e2 _ x u hx hu
  cases hdc : d' with
  | true =>
    obtain ⟨hd0, hd⟩ := hd' hdc
    subst hd0 hd
    obtain ⟨fs2, p1, p2, p3⟩ := q4.own rfl
    rcases h.objs i _ _ hl with ⟨_, h5⟩ | ⟨h5, _⟩
    case inr => cases h5
    generalize hpl : pl i = vi at *
    cases h5 with
    | flat hf => cases hf
    | lst us1 fs s1 s2 s3 s4 s5 s6 s7 s8 =>
    have hus : us1 = us0 := s1.uniq hp.own
    subst hus
    have hFi : ∀ k b, fs k b → F i b := fun k b hb => (s8 b).2 (.inr ⟨k, hb⟩)
    have hfs2 : ∀ k b, fs2 k b → b < w.heap.size ∧ ¬ F i b := fun k b hb => by
      obtain ⟨j, e', y', k1, k2, k3⟩ := p2 k b hb
      exact hKF j e' y' b k1 k2 k3
    let fsA : Nat → Nat → Prop := fun k => if k < els0.flatten.length then fs k else fs2 (k - els0.flatten.length)
    have fsA1 : ∀ k, k < els0.flatten.length → fsA k = fs k := fun k hk => if_pos hk
    have fsA2 : ∀ k, ¬ k < els0.flatten.length → fsA k = fs2 (k - els0.flatten.length) := fun k hk => if_neg hk
    have hA : ∀ k b, fsA k b → (∃ k, fs k b) ∨ ∃ k, fs2 k b := fun k b hb => by
      by_cases hk : k < els0.flatten.length
      · rw [fsA1 k hk] at hb; exact .inl ⟨k, hb⟩
      · rw [fsA2 k hk] at hb; exact .inr ⟨_, hb⟩
    have hnt : ∀ k b, fsA k b → v'.ownBlock ≠ some b := fun k b hb ht' => by
      rcases htop b ht' with h6 | ⟨h6, _⟩
      · rcases hA k b hb with ⟨k', hf⟩ | ⟨k', hf⟩
        · exact s7 k' b hf h6
        · exact (hfs2 k' b hf).2 (hp.top b h6)
      · subst h6
        rcases hA k _ hb with ⟨k', hf⟩ | ⟨k', hf⟩
        · exact absurd (hlt _ (hFi k' _ hf)).2 (Nat.lt_irrefl _)
        · exact absurd (hfs2 k' _ hf).1 (Nat.lt_irrefl _)
    refine ⟨_, w', v', fun b => v'.ownBlock = some b ∨ ∃ k, fsA k b, v', exec_append ho h1 h2 h3 (by rw [g1]; exact r1), .inl rfl, hbel, hch, fun ep0 ob0 h0 => .inl (by rw [hl] at h0; cases h0; omega), fun _ => Nat.succ_pos _, fun b hb => ?_, fun lk' pl' Fr' g hg e1 e2 => ⟨?_, hone, _, _, e1, Nat.le_refl _, fun _ => ⟨rfl, e2.symm⟩⟩⟩
    · rcases hb with hb | ⟨k, hb⟩
      · rcases htop b hb with h6 | ⟨h6, h7⟩
        · exact .inr (.inl ⟨_, hl, hp.top b h6⟩)
        · exact .inl (by omega)
      · rcases hA k b hb with ⟨k', hf⟩ | ⟨k', hf⟩
        · exact .inr (.inl ⟨_, hl, hFi k' b hf⟩)
        · obtain ⟨j, e', y', k1, k2, k3⟩ := p2 k' b hf
          exact .inr (.inr ⟨j, y', hks j e' k1, ⟨e', k1⟩, k2, k3⟩)
    · refine mk_row hown' hul hff hll (fun h => by cases h) fun _ => ⟨fsA, fun k x u hx hu => ?_, fun k k' b hne hb hb' => ?_, hnt, fun b => Iff.rfl⟩
      · rw [hfu] at hx
        by_cases hk : k < els0.flatten.length
        · rw [List.getElem?_append_left hk] at hx
          rw [List.getElem?_append_left (by rw [← hp.len]; exact hk)] at hu
          rw [fsA1 k hk]
          exact (s5 k x u hx hu).keep fun b hb => hkeep b (hlt b (hFi k b hb)).2 (s7 k b hb)
        · rw [List.getElem?_append_right (by omega)] at hx
          rw [List.getElem?_append_right (by rw [← hp.len]; omega), ← hp.len] at hu
          rw [fsA2 k hk]
          exact (p1 _ x u hx hu).keep fun b hb => hkeep b (hfs2 _ b hb).1 fun ht' => (hfs2 _ b hb).2 (hp.top b ht')
      · by_cases hk : k < els0.flatten.length
        · rw [fsA1 k hk] at hb
          by_cases hk' : k' < els0.flatten.length
          · rw [fsA1 k' hk'] at hb'; exact s6 k k' b hne hb hb'
          · rw [fsA2 k' hk'] at hb'; exact (hfs2 _ b hb').2 (hFi k b hb)
        · rw [fsA2 k hk] at hb
          by_cases hk' : k' < els0.flatten.length
          · rw [fsA1 k' hk'] at hb'; exact (hfs2 _ b hb).2 (hFi k' b hb')
          · rw [fsA2 k' hk'] at hb'; exact p3 _ _ b (by omega) hb hb'
  | false =>
    refine ⟨_, w', v', fun b => v'.ownBlock = some b, v', exec_append ho h1 h2 h3 (by rw [g1]; exact r1), .inl rfl, hbel, hch, fun ep0 ob0 h0 => .inl (by rw [hl] at h0; cases h0; omega), fun _ => Nat.succ_pos _, fun b hb => ?_, fun lk' pl' Fr' g hg e1 e2 => ⟨?_, hone, _, _, e1, Nat.le_refl _, fun _ => ⟨rfl, e2.symm⟩⟩⟩
    · rcases htop b hb with h6 | ⟨h6, h7⟩
      · exact .inr (.inl ⟨_, hl, hp.top b h6⟩)
      · exact .inl (by omega)
    · have hcv : ∀ (k : Nat) (x : T) (u : Value), els.flatten[k]? = some x → us[k]? = some u → Rd P w' Fr' x u := fun k x u hx hu => (q4.rd k x u hx hu).mono (fun b hb => by
          rcases hb with hb | ⟨j, e', y', k1, k2, k3⟩
          · exact g.more b hb
          · have h6 := hKF j e' y' b k1 k2 k3
            refine hg b (.inr ⟨j, y', hks j e' k1, ⟨e', k1⟩, k2, k3⟩) fun ht' => ?_
            rcases htop b ht' with h7 | ⟨h7, _⟩
            · exact h6.2 (hp.top b h7)
            · omega) fun b hb => by
          rcases hb with hb | ⟨j, e', y', k1, k2, k3⟩
          · exact g.heap b hb
          · have h6 := hKF j e' y' b k1 k2 k3
            exact hkeep b h6.1 fun ht' => h6.2 (hp.top b ht')
      refine mk_row hown' hul hff hll (fun _ => ⟨hsplit (fun k x u hx hu => ?_) hcv, fun b => Iff.rfl⟩) fun h => by cases h
      cases hd0 : d0 with
      | false => subst hd0; exact (hp.shr rfl k x u hx hu).mono g.more g.heap
      | true =>
        subst hd0
        rcases h.objs i _ _ hl with ⟨_, h5⟩ | ⟨h5, _⟩
        case inr => cases h5
        generalize hpl : pl i = vi at *
        cases h5 with
        | flat hf => cases hf
        | lst us1 fs s1 s2 s3 s4 s5 s6 s7 s8 =>
        have hus : us1 = us0 := s1.uniq hp.own
        subst hus
        have hFi : ∀ k b, fs k b → F i b := fun k b hb => (s8 b).2 (.inr ⟨k, hb⟩)
        have h6 : Rd P w (fs k) x u := (s5 k x u hx hu).rd fun b hb => hb
        refine h6.mono (fun b hb => hg b (.inl ⟨_, hl, hFi k b hb⟩) fun ht' => ?_) fun b hb => hkeep b (hlt b (hFi k b hb)).2 (s7 k b hb)
        rcases htop b ht' with h7 | ⟨h7, _⟩
        · exact s7 k b hb h7
        · have := (hlt b (hFi k b hb)).2
          omega
end
end Go.Proofs.Ytmkpgcahmbancaa.Ab
namespace Go.Proofs.Ytmkpgcahmbancaa.Ab
set_option linter.unusedSimpArgs false
set_option linter.unusedVariables false
open Go.RowKit

/-! ### Operations that look at no memory -/
/-- The blocks that are read alike as long as the objects os do not change. -/
def Rds (B : Nat → Prop) (W : En) (os : List Nat) (st : St) (w : World) (F : Nat → Nat → Prop) (b : Nat) : Prop := Free B W.o (look st.objs) F w b ∨ ∃ i, i ∈ os ∧ ∃ x, look st.objs i = some x ∧ F i b
def OpP (P : Program) (B : Nat → Prop) (W : En) (o : Oper) (os : List Nat) (st : St) (v : V) : Prop :=
  ∀ a w pl F, SimW P B W st a w pl F → ∃ u, (∀ w', (∀ b, Rds B W os st w F b → w'.heap[b]? = w.heap[b]?) → (execOp a.eval o).run P w' = .ok (.value u) w') ∧ C2 P w (look st.objs) pl (Free B W.o (look st.objs) F w) v u
def OpQ (P : Program) (B : Nat → Prop) (W : En) (o : Oper) (os : List Nat) (st : St) (KE : V → List (Nat × Nat × Ob) → Prop) : Prop := ∃ v, KE v [] ∧ OpP P B W o os st v
section
variable {P : Program} {B : Nat → Prop} {W : En} {o : Oper} {os : List Nat} {st : St} {KE : V → List (Nat × Nat × Ob) → Prop}
theorem OpQ.k {n : Nat} (_ : kindOf o.op = n) (h : OpQ P B W o os st KE) : OpQ P B W o os st KE := h
theorem OpQ.pure_ {v : V} (hK : KE v []) (h : ∀ a w pl F, SimW P B W st a w pl F → ∃ u, (∀ w', (execOp a.eval o).run P w' = .ok (.value u) w') ∧ C2 P w (look st.objs) pl (Free B W.o (look st.objs) F w) v u) : OpQ P B W o os st KE := ⟨v, hK, fun a w pl F hs => by
  obtain ⟨u, h1, h2⟩ := h a w pl F hs
  exact ⟨u, fun w' _ => h1 w', h2⟩⟩
theorem OpQ.move {x : Operand} (ho : o.op = .move x ∨ o.op = .assign x) (hK : KE (st.ev x) []) : OpQ P B W o os st KE :=
  OpQ.pure_ hK fun a w pl F hs => ⟨a.eval x, fun _ => by rcases ho with ho | ho <;> (unfold execOp; rw [ho]; rfl), hs.ev x⟩
theorem OpQ.mv {x : Operand} {v : V} (ho : o.op = .move x ∨ o.op = .assign x) (hx : st.ev x = v) (hK : KE v []) : OpQ P B W o os st KE := OpQ.move ho (by rw [hx]; exact hK)
theorem OpQ.pick {c x y : Operand} {t : Bool} (ho : o.op = .pick c x y) (hc : st.ev c = .t (.bool t)) (hK : KE (if t then st.ev x else st.ev y) []) : OpQ P B W o os st KE :=
  OpQ.pure_ hK fun a w pl F hs => by
    have h := hs.ev c
    rw [hc] at h
    cases h' : a.eval c <;> rw [h'] at h <;> cases h
    refine ⟨if t then a.eval x else a.eval y, fun _ => by unfold execOp; rw [ho]; simp [h', asBool], ?_⟩
    cases t
    · exact hs.ev y
    · exact hs.ev x
theorem OpQ.pick_t {c x y : Operand} {t : Bool} {v : V} (ho : o.op = .pick c x y) (hc : st.ev c = .t (.bool t)) (ht : t = true) (hx : st.ev x = v) (hK : KE v []) : OpQ P B W o os st KE := OpQ.pick ho hc (by rw [if_pos ht, hx]; exact hK)
theorem OpQ.pick_f {c x y : Operand} {t : Bool} {v : V} (ho : o.op = .pick c x y) (hc : st.ev c = .t (.bool t)) (ht : t = false) (hx : st.ev y = v) (hK : KE v []) : OpQ P B W o os st KE := OpQ.pick ho hc (by rw [if_neg (by simp [ht]), hx]; exact hK)
theorem OpQ.field_ptr {s : TypeId} {x : Operand} {f fo n i ep k off : Nat} {y : Ty} (ho : o.op = .fieldAddr s x f) (hx : st.ev x = .ptr i ep k off) (hy : tinfo P s = some y) (hf : fldOf y f = some (fo, n))
    {e : Nat} {ob : Ob} (hl : look st.objs i = some (e, ob)) (he : e = ep) (hK : KE (.ptr i ep k (off + fo)) []) : OpQ P B W o os st KE :=
  OpQ.pure_ hK fun a w pl F hs => by
    have h1 := hs.ev x
    rw [hx] at h1
    obtain ⟨_, ep', ob', h2, h3, h4⟩ : C0 P w (look st.objs) pl (Free B W.o (look st.objs) F w) (.ptr i ep k off) (a.eval x) := h1
    rw [hl] at h2
    cases h2
    obtain ⟨g, bb, hg, hu⟩ := h4 he.symm
    refine ⟨_, fun _ => exec_fieldAddr ho hy hf hu, rfl, _, _, hl, by omega, fun _ => ⟨g, bb, hg, ?_⟩⟩
    rw [add_lit0]
    simp [Nat.add_assoc]
theorem OpQ.field_rptr {s : TypeId} {x : Operand} {f fo n off : Nat} {cs : List T} {y : Ty} (ho : o.op = .fieldAddr s x f) (hx : st.ev x = .rptr cs off) (hy : tinfo P s = some y) (hf : fldOf y f = some (fo, n)) (hK : KE (.rptr cs (off + fo)) []) : OpQ P B W o os st KE :=
  OpQ.pure_ hK fun a w pl F hs => by
    have h1 := hs.ev x
    rw [hx] at h1
    obtain ⟨ad, h2, h3⟩ : C0 P w (look st.objs) pl (Free B W.o (look st.objs) F w) (.rptr cs off) (a.eval x) := h1
    refine ⟨_, fun _ => exec_fieldAddr ho hy hf h2, _, rfl, fun j z hz => ?_⟩
    obtain ⟨h4, u, h5, h6⟩ := h3 (fo + j) z (by rw [← Nat.add_assoc]; exact hz)
    exact ⟨by rw [block_of_add]; exact h4, u, by rw [add_of_add]; exact h5, h6⟩
theorem OpQ.index_lst {t : TypeId} {x ix : Operand} {fl : Bool} {els : List (List T)} {n : Int} {k : IntKind} {e es eb e' : Nat} {y : Ty} (ho : o.op = .indexAddr t x ix) (hx : st.ev x = .t (.lst fl e' els)) (hi : st.ev ix = .t (.int k n)) (hy : tinfo P t = some y) (hk : y.k = .slice e es eb) (hes : es ≠ 0) (he : e' = e)
    (hn : 0 ≤ n ∧ n < els.length) (hK : KE (.rptr (els.getD n.toNat []) 0) []) : OpQ P B W o os st KE :=
  OpQ.pure_ hK fun a w pl F hs => by
    subst he
    obtain ⟨A, c, us, h1, h2, h3, h4, h5, h6, h7, h8⟩ := hs.lst_at hx
    have hes' : P.cellsOf e' = es := (slice_t hy hk).2.1
    have hnn : n.toNat < els.length := by omega
    have hne : us ≠ [] := fun e => by
      have := flatten_len h4
      rw [h6, e, hes', List.length_nil] at this
      have := Nat.mul_pos (show 0 < els.length by omega) (Nat.pos_of_ne_zero hes)
      omega
    obtain ⟨ad, rfl, hb, hc⟩ := h7 hne
    refine ⟨_, fun _ => exec_indexAddr ho hy hk hes h1 (hs.int_at hi).1 hn, _, rfl, fun j z hz => ?_⟩
    have hjl : j < es := by
      have h9 := (List.getElem?_eq_some_iff.1 hz).1
      rw [Nat.zero_add, h4 _ (getD_mem hnn), hes'] at h9
      exact h9
    have hx' := (flatten_at (s := es) (fun x hx => (h4 x hx).trans hes') hnn hjl).trans (by simpa using hz)
    have hlt : n.toNat * es + j < us.length := by rw [← h6]; exact (List.getElem?_eq_some_iff.1 hx').1
    exact ⟨by rw [block_of_add]; exact hb, _, by rw [add_of_add]; exact hc _ _ (List.getElem?_eq_getElem hlt), h8 _ _ _ hx' (List.getElem?_eq_getElem hlt)⟩
theorem OpQ.index_hnd {t : TypeId} {x ix : Operand} {i ep : Nat} {fl d : Bool} {els : List (List T)} {n : Int} {k : IntKind} {e es eb e' : Nat} {y : Ty} (ho : o.op = .indexAddr t x ix) (hx : st.ev x = .hnd i ep) (hl : look st.objs i = some (ep, .row fl d e' els)) (hi : st.ev ix = .t (.int k n)) (hy : tinfo P t = some y) (hk : y.k = .slice e es eb) (hes : es ≠ 0) (he : e' = e)
    (hn : 0 ≤ n ∧ n < els.length) (hK : KE (.ptr i ep n.toNat 0) []) : OpQ P B W o os st KE :=
  OpQ.pure_ hK fun a w pl F hs => by
    subst he
    obtain ⟨h1, us, hp⟩ := hs.hnd_at hx hl
    have hes' : P.cellsOf e' = es := (slice_t hy hk).2.1
    have hnn : n.toNat < els.length := by omega
    have h0 : 0 < (els.getD n.toNat []).length := by rw [hp.uni _ (getD_mem hnn)]; omega
    obtain ⟨g, bb, c, u, h2, h3, _⟩ := hp.cell (j := 0) hnn (List.getElem?_eq_getElem h0)
    refine ⟨_, fun _ => exec_indexAddr ho hy hk hes (h1.trans h2) (hs.int_at hi).1 hn, rfl, _, _, hl, Nat.le_refl _, fun _ => ⟨g, bb, by rw [h2]; rfl, ?_⟩⟩
    rw [add_lit0]
    simp [esz, hes']
theorem OpQ.index_at {t : TypeId} {x ix : Operand} {fl : Bool} {els : List (List T)} {n : Int} {k : IntKind} {e es eb e' m : Nat} {y : Ty} {cs : List T} (ho : o.op = .indexAddr t x ix) (hx : st.ev x = .t (.lst fl e' els)) (hi : st.ev ix = .t (.int k n)) (hy : tinfo P t = some y) (hk : y.k = .slice e es eb) (hes : es ≠ 0) (he : e' = e)
    (hm : n = (m : Int)) (hc : els[m]? = some cs) (hK : KE (.rptr cs 0) []) : OpQ P B W o os st KE := by
  have hlt : m < els.length := (List.getElem?_eq_some_iff.1 hc).1
  refine OpQ.index_lst ho hx hi hy hk hes he (by omega) ?_
  have : els.getD n.toNat [] = cs := by rw [hm, Int.toNat_natCast, List.getD_eq_getElem?_getD, hc]; rfl
  rw [this]
  exact hK
theorem OpQ.index_row {t : TypeId} {x ix : Operand} {i ep : Nat} {fl d : Bool} {els : List (List T)} {n : Int} {k : IntKind} {e es eb e' m : Nat} {y : Ty} (ho : o.op = .indexAddr t x ix) (hx : st.ev x = .hnd i ep) (hl : look st.objs i = some (ep, .row fl d e' els)) (hi : st.ev ix = .t (.int k n)) (hy : tinfo P t = some y) (hk : y.k = .slice e es eb) (hes : es ≠ 0) (he : e' = e)
    (hm : n = (m : Int)) (hlt : m < els.length) (hK : KE (.ptr i ep m 0) []) : OpQ P B W o os st KE := by
  refine OpQ.index_hnd ho hx hl hi hy hk hes he (by omega) ?_
  rw [hm, Int.toNat_natCast]
  exact hK
theorem OpQ.len_lst {x : Operand} {t : TypeId} {c : Call} {fl : Bool} {e' : Nat} {els : List (List T)} {e es eb : Nat} {y : Ty} (ho : o.op = .call c) (h1 : c.callee = .builtin .len) (h2 : c.args = #[x]) (h3 : c.argTypes = #[t]) (hy : tinfo P t = some y) (hk : y.k = .slice e es eb) (hx : st.ev x = .t (.lst fl e' els)) {m : Nat} (hm : els.length = m) (hK : KE (.t (.int .i64 m)) []) : OpQ P B W o os st KE :=
  OpQ.pure_ hK fun a w pl F hs => by
    subst hm
    obtain ⟨A, c, us, g1, g2, g3, _⟩ := hs.lst_at hx
    exact ⟨_, fun _ => exec_len ho h1 h2 h3 hy hk g1, Rd.int (wf_len (Nat.le_trans g2 g3))⟩
theorem OpQ.len_nil {x : Operand} {t : TypeId} {c : Call} {e es eb : Nat} {y : Ty} (ho : o.op = .call c) (h1 : c.callee = .builtin .len) (h2 : c.args = #[x]) (h3 : c.argTypes = #[t]) (hy : tinfo P t = some y) (hk : y.k = .slice e es eb) (hx : st.ev x = .t .nil) (hK : KE (.t (.int .i64 0)) []) : OpQ P B W o os st KE :=
  OpQ.pure_ hK fun a w pl F hs => ⟨_, fun _ => exec_len ho h1 h2 h3 hy hk (hs.nil_at hx), Rd.int (wf_len (by simp [maxLen]))⟩
theorem OpQ.len_hnd {x : Operand} {t : TypeId} {c : Call} {i ep : Nat} {fl d : Bool} {e' : Nat} {els : List (List T)} {e es eb : Nat} {y : Ty} (ho : o.op = .call c) (h1 : c.callee = .builtin .len) (h2 : c.args = #[x]) (h3 : c.argTypes = #[t]) (hy : tinfo P t = some y) (hk : y.k = .slice e es eb) (hx : st.ev x = .hnd i ep) (hl : look st.objs i = some (ep, .row fl d e' els)) {m : Nat} (hm : els.length = m) (hK : KE (.t (.int .i64 m)) []) : OpQ P B W o os st KE :=
  OpQ.pure_ hK fun a w pl F hs => by
    subst hm
    obtain ⟨g1, us, hp⟩ := hs.hnd_at hx hl
    obtain ⟨A, c, g2, g3, g4, _⟩ := hp.slice
    exact ⟨_, fun _ => exec_len ho h1 h2 h3 hy hk (g1.trans g2), Rd.int (wf_len (Nat.le_trans g3 g4))⟩
theorem OpQ.len_str {x : Operand} {t : TypeId} {c : Call} {s : List UInt8} {y : Ty} (ho : o.op = .call c) (h1 : c.callee = .builtin .len) (h2 : c.args = #[x]) (h3 : c.argTypes = #[t]) (hy : tinfo P t = some y) (hk : y.k = .str) (hx : st.ev x = .t (.str s)) (hK : KE (.t (.int .i64 s.length)) []) : OpQ P B W o os st KE :=
  OpQ.pure_ hK fun a w pl F hs => by
    obtain ⟨d, i, g1, _, g2, _⟩ := tinfo_parts hy
    have g3 : d = .string := by rw [hk] at g2; cases d <;> simp [kdOf] at g2 ⊢
    subst g3
    obtain ⟨g4, g5⟩ := hs.str_at hx
    refine ⟨.int .i64 s.length, fun _ => ?_, Rd.int (wf_len g5)⟩
    unfold execOp
    rw [ho]
    simp [resolve, h1, h2, h3, invoke, builtin, Builtin.len_, run_underlying g1, g4, goInt, bs_size]
theorem OpQ.index_str {t : TypeId} {x ix : Operand} {s : List UInt8} {n : Int} {k : IntKind} {y : Ty} (ho : o.op = .index t x ix) (hx : st.ev x = .t (.str s)) (hi : st.ev ix = .t (.int k n)) (hy : tinfo P t = some y) (hk : y.k = .str) (hn : 0 ≤ n ∧ n < s.length) (hK : KE (.t (.int .u8 ((s.getD n.toNat 0).toNat : Nat))) []) : OpQ P B W o os st KE :=
  OpQ.pure_ hK fun a w pl F hs => by
    obtain ⟨d, i, g1, _, g2, _⟩ := tinfo_parts hy
    have g3 : d = .string := by rw [hk] at g2; cases d <;> simp [kdOf] at g2 ⊢
    subst g3
    obtain ⟨g4, g5⟩ := hs.str_at hx
    obtain ⟨g6, _⟩ := hs.int_at hi
    have hlt : n.toNat < s.length := by omega
    refine ⟨.int .u8 ((s.getD n.toNat 0).toNat : Nat), fun _ => ?_, Rd.int ?_⟩
    · unfold execOp
      rw [ho]
      refine exec_value ?_
      rw [g4, g6]
      have hq : (bs s)[n.toNat]? = some (s.getD n.toNat 0) := by
        rw [getElem?_pos (bs s) n.toNat (by rw [bs_size]; exact hlt)]
        simp [bs, ByteArray.getElem_eq_getElem_data, List.getD_eq_getElem?_getD, hlt]
      simp [Instr.index, asIntOf, run_underlying g1, hn.1, hq]
    · exact wf_u8 _
theorem OpQ.extract {x : Operand} {i : Nat} {vs : List V} {v : V} (ho : o.op = .extract x i) (hx : st.ev x = .tup vs) (hv : vs[i]? = some v) (hK : KE v []) : OpQ P B W o os st KE :=
  OpQ.pure_ hK fun a w pl F hs => by
    have h1 := hs.ev x
    rw [hx] at h1
    obtain ⟨us, h2, h3, h4⟩ := h1
    have hlt : i < us.length := by rw [h3]; exact (List.getElem?_eq_some_iff.1 hv).1
    refine ⟨us[i], fun _ => ?_, (h4 i v _ hv (List.getElem?_eq_getElem hlt)).c2⟩
    unfold execOp
    rw [ho]
    simp [Instr.extract, h2, hlt]
theorem OpQ.not_ {x : Operand} {t : TypeId} {b : Bool} (ho : o.op = .unOp .not t x) (hx : st.ev x = .t (.bool b)) (hK : KE (.t (.bool (!b))) []) : OpQ P B W o os st KE :=
  OpQ.pure_ hK fun a w pl F hs => ⟨.bool (!b), fun _ => by unfold execOp; rw [ho]; simp [hs.bool_at hx, Op.unary], Rd.bool⟩
theorem OpQ.neg {x : Operand} {t : TypeId} {k : IntKind} {n : Int} (ho : o.op = .unOp .neg t x) (hx : st.ev x = .t (.int k n)) (hK : KE (.t (.int k (k.wrap (0 - n)))) []) : OpQ P B W o os st KE :=
  OpQ.pure_ hK fun a w pl F hs => ⟨_, fun _ => by unfold execOp; rw [ho]; simp only [(hs.int_at hx).1, Op.unary, Op.intArith]; rfl, Rd.int (wf_wrap _ _)⟩
theorem OpQ.cmp {op : BinOp} {t t' : TypeId} {x y : Operand} {k : IntKind} {m n : Int} {b : Bool} (ho : o.op = .binOp op t x y t') (hx : st.ev x = .t (.int k m)) (hy : st.ev y = .t (.int k n)) (hb : cmpV op m n = some b) (hK : KE (.t (.bool b)) []) : OpQ P B W o os st KE :=
  OpQ.pure_ hK fun a w pl F hs => by
    refine ⟨.bool b, fun _ => ?_, Rd.bool⟩
    unfold execOp
    rw [ho]
    refine exec_value ?_
    rw [(hs.int_at hx).1, (hs.int_at hy).1]
    cases op <;> simp only [cmpV, Option.some.injEq, reduceCtorEq] at hb <;> subst hb <;> simp [eqGuard, binOp, Op.intCmp] <;> rfl
theorem OpQ.arith {op : BinOp} {t t' : TypeId} {x y : Operand} {k : IntKind} {m n r : Int} (ho : o.op = .binOp op t x y t') (hx : st.ev x = .t (.int k m)) (hy : st.ev y = .t (.int k n)) (hb : arV op k m n = some r) (hK : KE (.t (.int k r)) []) : OpQ P B W o os st KE :=
  OpQ.pure_ hK fun a w pl F hs => by
    refine ⟨.int k r, fun _ => ?_, ?_⟩
    · unfold execOp
      rw [ho]
      refine exec_value ?_
      rw [(hs.int_at hx).1, (hs.int_at hy).1]
      cases op <;> simp only [arV, Option.some.injEq, reduceCtorEq] at hb <;> subst hb <;> simp [eqGuard, binOp, Op.intArith, Op.intBits]
    · refine Rd.int ?_
      cases op <;> simp only [arV, Option.some.injEq, reduceCtorEq] at hb <;> subst hb <;> exact wf_wrap _ _
theorem OpQ.arith_i {op : BinOp} {t t' : TypeId} {x y : Operand} {m n r : Int} (ho : o.op = .binOp op t x y t') (hx : st.ev x = .t (.int .i64 m)) (hy : st.ev y = .t (.int .i64 n)) (hb : arI op m n = some r) (hr : -9223372036854775808 ≤ r ∧ r ≤ 9223372036854775807) (hK : KE (.t (.int .i64 r)) []) : OpQ P B W o os st KE := by
  refine OpQ.arith (r := r) ho hx hy ?_ hK
  cases op <;> simp only [arI, Option.some.injEq, reduceCtorEq] at hb <;> subst hb <;> simp only [arV] <;> rw [wrap_i64 hr]
theorem OpQ.not_d {x : Operand} {t : TypeId} {p : Prop} [Decidable p] (ho : o.op = .unOp .not t x) (hx : st.ev x = .t (.bool (decide p))) (hK : KE (.t (.bool (decide (¬ p)))) []) : OpQ P B W o os st KE :=
  OpQ.not_ ho hx (by have : decide (¬ p) = !decide p := by by_cases h : p <;> simp [h]
                     rw [← this]; exact hK)
theorem OpQ.quo {t t' : TypeId} {x y : Operand} {k : IntKind} {m n : Int} (ho : o.op = .binOp .quo t x y t') (hx : st.ev x = .t (.int k m)) (hy : st.ev y = .t (.int k n)) (hn : n ≠ 0) (hK : KE (.t (.int k (k.wrap (m.tdiv n)))) []) : OpQ P B W o os st KE :=
  OpQ.pure_ hK fun a w pl F hs => by
    refine ⟨_, fun _ => ?_, Rd.int (wf_wrap _ _)⟩
    unfold execOp
    rw [ho]
    refine exec_value ?_
    rw [(hs.int_at hx).1, (hs.int_at hy).1]
    simp [eqGuard, binOp, Op.intDiv, hn]
theorem OpQ.quo_i {t t' : TypeId} {x y : Operand} {m n : Int} (ho : o.op = .binOp .quo t x y t') (hx : st.ev x = .t (.int .i64 m)) (hy : st.ev y = .t (.int .i64 n)) (hn : 0 < n) (hm : 0 ≤ m) (hK : KE (.t (.int .i64 (m / n))) []) : OpQ P B W o os st KE := by
  refine OpQ.pure_ hK fun a w pl F hs => ?_
  have h1 : m.tdiv n = m / n := Int.tdiv_eq_ediv_of_nonneg hm
  obtain ⟨h2, h3⟩ := hs.int_at hx
  have hb := bounds_i64 h3
  have h4 : m / n ≤ m := Int.ediv_le_self _ hm
  have h5 : 0 ≤ m / n := Int.ediv_nonneg hm (by omega)
  refine ⟨.int .i64 (m / n), fun _ => ?_, Rd.int (WalkArith.wf_i64 (by omega))⟩
  unfold execOp
  rw [ho]
  refine exec_value ?_
  rw [h2, (hs.int_at hy).1]
  have hn0 : n ≠ 0 := by omega
  simp [eqGuard, binOp, Op.intDiv, hn0, h1, wrap_i64 (show -9223372036854775808 ≤ m / n ∧ m / n ≤ 9223372036854775807 by omega)]
theorem OpQ.rem {t t' : TypeId} {x y : Operand} {k : IntKind} {m n : Int} (ho : o.op = .binOp .rem t x y t') (hx : st.ev x = .t (.int k m)) (hy : st.ev y = .t (.int k n)) (hn : n ≠ 0) (hK : KE (.t (.int k (m.tmod n))) []) : OpQ P B W o os st KE :=
  OpQ.pure_ hK fun a w pl F hs => by
    refine ⟨_, fun _ => ?_, Rd.int (wf_tmod (hs.int_at hx).2)⟩
    unfold execOp
    rw [ho]
    refine exec_value ?_
    rw [(hs.int_at hx).1, (hs.int_at hy).1]
    simp [eqGuard, binOp, Op.intDiv, hn]
theorem OpQ.cmp_bool {op : BinOp} {t t' : TypeId} {x y : Operand} {m n b : Bool} {z : Ty} (ho : o.op = .binOp op t x y t') (hz : tinfo P t = some z) (hk : z.k = .bool) (hx : st.ev x = .t (.bool m)) (hy : st.ev y = .t (.bool n)) (hb : (match op with | .eql => some (m == n) | .neq => some (!(m == n)) | _ => none) = some b) (hK : KE (.t (.bool b)) []) : OpQ P B W o os st KE :=
  OpQ.pure_ hK fun a w pl F hs => by
    obtain ⟨d, i, g1, _, g2, _⟩ := tinfo_parts hz
    have g3 : d = .bool := by rw [hk] at g2; cases d <;> simp [kdOf] at g2 ⊢
    subst g3
    refine ⟨.bool b, fun _ => ?_, Rd.bool⟩
    unfold execOp
    rw [ho]
    refine exec_value ?_
    rw [hs.bool_at hx, hs.bool_at hy]
    cases op <;> simp only [Option.some.injEq, reduceCtorEq] at hb <;> subst hb <;> simp [eqGuard, run_eql_bool _ t m n g1, run_neq_bool _ t m n g1]
theorem OpQ.cmp_str {op : BinOp} {t t' : TypeId} {x y : Operand} {m n : List UInt8} {b : Bool} (ho : o.op = .binOp op t x y t') (hx : st.ev x = .t (.str m)) (hy : st.ev y = .t (.str n)) (hb : cmpS op m n = some b) (hK : KE (.t (.bool b)) []) : OpQ P B W o os st KE :=
  OpQ.pure_ hK fun a w pl F hs => by
    refine ⟨.bool b, fun _ => ?_, Rd.bool⟩
    unfold execOp
    rw [ho]
    refine exec_value ?_
    rw [(hs.str_at hx).1, (hs.str_at hy).1]
    have hbe : ∀ (p q : List UInt8), (p == q) = decide (p = q) := fun p q => by by_cases h : p = q <;> simp [h]
    cases op <;> simp only [cmpS, Option.some.injEq, reduceCtorEq] at hb <;> subst hb <;> simp [eqGuard, binOp, Op.stringOp, bs_toList, hbe] <;> rfl
theorem OpQ.nilCheck_ptr {x : Operand} {i ep n off : Nat} (ho : o.op = .nilCheck x) (hx : st.ev x = .ptr i ep n off) {ob : Ob} (hl : look st.objs i = some (ep, ob)) (hK : KE (.ptr i ep n off) []) : OpQ P B W o os st KE :=
  OpQ.pure_ hK fun a w pl F hs => by
    have h1 := hs.ev x
    rw [hx] at h1
    have h1' := h1
    obtain ⟨_, ep', ob, h2, h3, h4⟩ : C0 P w (look st.objs) pl (Free B W.o (look st.objs) F w) (.ptr i ep n off) (a.eval x) := h1
    rw [hl] at h2
    cases h2
    obtain ⟨g, bb, hg, hu⟩ := h4 rfl
    refine ⟨a.eval x, fun _ => ?_, h1'⟩
    unfold execOp
    rw [ho]
    simp [hu]
end

/-! ### Whatever order is drawn -/
def QN (P : Program) (B : Nat → Prop) (W : En) (K : St → Prop) : Exit → Act → World → Prop
  | .normal, a, w => ∃ st', Sim P B W st' a w ∧ K st'
  | _, _, _ => False
/-- The objects os do not change. -/
def disjB : List Nat → List (Nat × Nat × Ob) → Bool
  | [], _ => true
  | o :: r, upd => match (upd.map (·.1)).contains o with | true => false | false => disjB r upd
def offB (os : List Nat) (upd : List (Nat × Nat × Ob)) (p : Prop) : Prop := match disjB os upd with | true => p | false => False
theorem disjB_ok : ∀ {os : List Nat} {upd : List (Nat × Nat × Ob)}, disjB os upd = true → ∀ i ∈ os, ∀ e ob, (i, e, ob) ∉ upd
  | [], _, _, i, hi => by cases hi
  | o :: r, upd, h, i, hi => by
    unfold disjB at h
    cases hc : (upd.map (·.1)).contains o with
    | true => rw [hc] at h; cases h
    | false =>
      rw [hc] at h
      rcases List.mem_cons.1 hi with rfl | hi
      · intro e ob hm
        have : (upd.map (·.1)).contains i = true := List.contains_iff_mem.2 (List.mem_map.2 ⟨_, hm, rfl⟩)
        rw [this] at hc
        cases hc
      · exact disjB_ok h i hi
theorem offB_ok {os : List Nat} {upd : List (Nat × Nat × Ob)} {p : Prop} (h : offB os upd p) : (∀ i ∈ os, ∀ e ob, (i, e, ob) ∉ upd) ∧ p := by
  unfold offB at h
  cases hc : disjB os upd with
  | true => rw [hc] at h; exact ⟨disjB_ok hc, h⟩
  | false => rw [hc] at h; exact h.elim
def SX (X : Nat → Prop) (w0 w : World) : Prop := ∀ b, X b → w.heap[b]? = w0.heap[b]?
def XOk (B : Nat → Prop) (W : En) (os : List Nat) (st : St) (X : Nat → Prop) (w0 w : World) (F : Nat → Nat → Prop) : Prop := ∀ b, X b → Rds B W os st w F b ∧ w.heap[b]? = w0.heap[b]?
theorem XOk.sx {B : Nat → Prop} {W : En} {os : List Nat} {st : St} {X : Nat → Prop} {w0 w : World} {F : Nat → Nat → Prop} (h : XOk B W os st X w0 w F) : SX X w0 w := fun b hb => (h b hb).2
def aA (P : Program) (B : Nat → Prop) (W : En) (ops : Array Oper) (os : List Nat) (n : Nat) (ls : Array Bool) (K : St → Prop) (st : St) : Prop :=
  ∀ w0 X a w pl F, SimW P B W st a w pl F → XOk B W os st X w0 w F → wpAnyH P .any ops (QN P B W K) (SX X w0) n ls a w
/-- The operation number i comes up. -/
def aO (P : Program) (B : Nat → Prop) (W : En) (ops : Array Oper) (os : List Nat) (n : Nat) (ls : Array Bool) (K : St → Prop) (st : St) (i : Nat) : Prop :=
  ∀ w0 X a w pl F, SimW P B W st a w pl F → XOk B W os st X w0 w F → wpOp P ops (QN P B W K) i (fun a' w' => SX X w0 w' ∧ wpAnyH P .any ops (QN P B W K) (SX X w0) n (ls.setIfInBounds i true) a' w') a w
def aOs (P : Program) (B : Nat → Prop) (W : En) (ops : Array Oper) (os : List Nat) (n : Nat) (ls : Array Bool) (K : St → Prop) (st : St) : List Nat → Prop
  | [] => True
  | i :: r => aO P B W ops os n ls K st i ∧ aOs P B W ops os n ls K st r
section
variable {P : Program} {B : Nat → Prop} {W : En} {ops : Array Oper} {K : St → Prop} {st : St} {o : Oper} {os : List Nat} {n i : Nat} {ls : Array Bool}
theorem aOs_at : ∀ {rs : List Nat}, aOs P B W ops os n ls K st rs → ∀ i ∈ rs, aO P B W ops os n ls K st i
  | [], _, i, h => by cases h
  | j :: r, h, i, hi => by
    rcases List.mem_cons.1 hi with rfl | hi
    · exact h.1
    · exact aOs_at h.2 i hi
theorem upds_look (st : St) (upd : List (Nat × Nat × Ob)) (d : Option Nat) (v : V) {i : Nat} (hi : ∀ e ob, (i, e, ob) ∉ upd) : look ((st.upds upd).put d v).objs i = look st.objs i := by
  rw [put_objs]
  exact look_updl_not upd st.objs i hi
theorem XOk.keeps {X : Nat → Prop} {w0 w w' : World} {F F' : Nat → Nat → Prop} {upd : List (Nat × Nat × Ob)} {d : Option Nat} {v : V} (h : XOk B W os st X w0 w F) (hk : Keeps B W st.objs ((st.upds upd).put d v).objs upd w w' F F') (hd : ∀ i ∈ os, ∀ e ob, (i, e, ob) ∉ upd) : XOk B W os ((st.upds upd).put d v) X w0 w' F' := fun b hb => by
  obtain ⟨h1, h2⟩ := h b hb
  rcases h1 with h1 | ⟨i, hi, x, hx, hf⟩
  · exact ⟨.inl (hk.free b h1), (hk.heap b h1).trans h2⟩
  · have h3 := hk.own i x b hx (hd i hi) hf
    exact ⟨.inr ⟨i, hi, x, by rw [upds_look st upd d v (hd i hi)]; exact hx, h3.1⟩, h3.2.trans h2⟩
theorem XOk.put {X : Nat → Prop} {w0 w : World} {F : Nat → Nat → Prop} {d : Option Nat} {v : V} (h : XOk B W os st X w0 w F) : XOk B W os (st.put d v) X w0 w F := fun b hb => by
  obtain ⟨h1, h2⟩ := h b hb
  refine ⟨?_, h2⟩
  unfold Rds at h1 ⊢
  rw [put_objs]
  exact h1
theorem SimW.undefW {a : Act} {w : World} {pl : Nat → Value} {F : Nat → Nat → Prop} (hs : SimW P B W st a w pl F) (d : Option Tmp) : SimW P B W (st.put d (.lit undef)) (a.put d undef) w pl F := hs.put (v := .lit undef) rfl d
theorem wpAnyH_mono {S S' : World → Prop} {Q : Exit → Act → World → Prop} (hS : ∀ w, S' w → S w) : ∀ {n : Nat} {ls : Array Bool} {a : Act} {w : World}, wpAnyH P .any ops Q S' n ls a w → wpAnyH P .any ops Q S n ls a w
  | 0, _, _, _, h => h
  | n + 1, ls, a, w, h => ⟨h.1, fun i hi => wpOp_mono (fun a w h => ⟨hS w h.1, wpAnyH_mono hS h.2⟩) (h.2 i hi)⟩
theorem aA.done {st' : St} (hr : Region.ready .any ops ls = []) (h0 : st = st') (h : K st') : aA P B W ops os n ls K st := fun w0 X a w pl F hs hX => wpAnyH_done hr ⟨st, ⟨pl, F, hs⟩, h0 ▸ h⟩ n
theorem aA.all {rs : List Nat} {j : Nat} {r : List Nat} (hr : Region.ready .any ops ls = rs) (he : rs = j :: r) (h : aOs P B W ops os n ls K st rs) : aA P B W ops os (n + 1) ls K st := fun w0 X a w pl F hs hX =>
  wpAnyH_all hr (by rw [he]; simp) fun i hi => aOs_at h i hi w0 X a w pl F hs hX
/-- It is carried out. -/
theorem aO.op {d : Option Tmp} (hi : ops[i]? = some o) (hg : o.guard = none) (hd : o.dst = d) (h : OpS P B W o st fun v upd => offB os upd (aA P B W ops os n (ls.setIfInBounds i true) K ((st.upds upd).put d v))) : aO P B W ops os n ls K st i := fun w0 X a w pl F hs hX => by
  subst hd
  unfold wpOp
  rw [hi]
  simp only []
  rw [if_pos (by simp [Region.wanted, hg])]
  refine .inl (h a w pl F hs _ _ fun v upd a' w' pl' F' hs' hkp hk => ?_)
  obtain ⟨h1, h2⟩ := offB_ok hk
  have hX' := hX.keeps hkp h1
  exact ⟨hX'.sx, h2 w0 X a' w' pl' F' hs' hX'⟩
theorem aO.g_yes {j d : Nat} {want b : Bool} {dd : Option Tmp} (hi : ops[i]? = some o) (hg : o.guard = some (j, want)) (hdd : o.dst = dd) (hd : (ops[j]?).bind (·.dst) = some d) (hv : st.ev (.tmp d) = .t (.bool b)) (hb : b = want)
    (h : OpS P B W o st fun v upd => offB os upd (aA P B W ops os n (ls.setIfInBounds i true) K ((st.upds upd).put dd v))) : aO P B W ops os n ls K st i := fun w0 X a w pl F hs hX => by
  subst hdd
  have hy := yield_at ⟨pl, F, hs⟩ hd hv
  unfold wpOp
  rw [hi]
  simp only []
  rw [if_pos (by simp [Region.wanted, hg, hy, hb])]
  refine .inl (h a w pl F hs _ _ fun v upd a' w' pl' F' hs' hkp hk => ?_)
  obtain ⟨h1, h2⟩ := offB_ok hk
  have hX' := hX.keeps hkp h1
  exact ⟨hX'.sx, h2 w0 X a' w' pl' F' hs' hX'⟩
theorem aO.g_no {j d : Nat} {want b : Bool} {dd : Option Tmp} (hi : ops[i]? = some o) (hg : o.guard = some (j, want)) (hdd : o.dst = dd) (hd : (ops[j]?).bind (·.dst) = some d) (hv : st.ev (.tmp d) = .t (.bool b)) (hb : b = !want)
    (h : aA P B W ops os n (ls.setIfInBounds i true) K (st.put dd (.lit undef))) : aO P B W ops os n ls K st i := fun w0 X a w pl F hs hX => by
  subst hdd
  have hy := yield_at ⟨pl, F, hs⟩ hd hv
  unfold wpOp
  rw [hi]
  simp only []
  rw [if_neg (by subst hb; cases want <;> simp [Region.wanted, hg, hy])]
  exact ⟨hX.sx, h w0 X _ _ pl F (hs.undefW _) hX.put⟩
theorem aO.g_not {j d : Nat} {want : Bool} {dd : Option Tmp} (hi : ops[i]? = some o) (hg : o.guard = some (j, want)) (hdd : o.dst = dd) (hd : (ops[j]?).bind (·.dst) = some d) (hv : st.ev (.tmp d) = .lit undef)
    (h : aA P B W ops os n (ls.setIfInBounds i true) K (st.put dd (.lit undef))) : aO P B W ops os n ls K st i := fun w0 X a w pl F hs hX => by
  subst hdd
  have hy := yield_not ⟨pl, F, hs⟩ hd hv
  unfold wpOp
  rw [hi]
  simp only []
  rw [if_neg (by simp [Region.wanted, hg, hy])]
  exact ⟨hX.sx, h w0 X _ _ pl F (hs.undefW _) hX.put⟩
theorem aO.g_d {j d : Nat} {want : Bool} {p : Prop} [Decidable p] {dd : Option Tmp} (hi : ops[i]? = some o) (hg : o.guard = some (j, want)) (hdd : o.dst = dd) (hd : (ops[j]?).bind (·.dst) = some d) (hv : st.ev (.tmp d) = .t (.bool (decide p)))
    (h1 : p → aO P B W ops os n ls K st i) (h2 : ¬ p → aO P B W ops os n ls K st i) : aO P B W ops os n ls K st i := by
  by_cases hp : p
  · exact h1 hp
  · exact h2 hp
theorem aO.g_2 {j d : Nat} {want b : Bool} {dd : Option Tmp} (hi : ops[i]? = some o) (hg : o.guard = some (j, want)) (hdd : o.dst = dd) (hd : (ops[j]?).bind (·.dst) = some d) (hv : st.ev (.tmp d) = .t (.bool b))
    (h1 : b = true → aO P B W ops os n ls K st i) (h2 : b = false → aO P B W ops os n ls K st i) : aO P B W ops os n ls K st i := by
  cases b
  · exact h2 rfl
  · exact h1 rfl
/-- It is taken first. -/
theorem aA.take_ {d : Option Tmp} (hi : ops[i]? = some o) (hs : Region.noSelect ops = true) (hf : Region.free .any ops ls i = true) (hr : (Region.ready .any ops ls).contains i = true) (hw : ∀ a w, Sim P B W st a w → Region.wanted o (yielded ops a.tmps) = true) (hd : o.dst = d)
    (h : OpQ P B W o os st fun v upd => aA P B W ops os n (ls.setIfInBounds i true) K ((st.upds upd).put d v)) : aA P B W ops os (n + 1) ls K st := fun w0 X a w pl F hsim hX => by
  subst hd
  obtain ⟨v, hk, hp⟩ := h
  obtain ⟨u, hu, hc⟩ := hp a w pl F hsim
  refine wpAnyH_mono (S' := SX (Rds B W os st w F) w) (fun w' h' b hb => (h' b (hX b hb).1).trans (hX b hb).2) ?_
  refine wpAnyH_take (v := u) hi hs hf hr (fun c a w hq => hq) (.inl ⟨hw a w ⟨pl, F, hsim⟩, fun w' hw' => hu w' hw'⟩) (fun b _ => rfl) ?_
  exact hk w _ _ _ pl F (hsim.put hc _) (XOk.put fun b hb => ⟨hb, rfl⟩)
theorem aA.take {d : Option Tmp} (hi : ops[i]? = some o) (hs : Region.noSelect ops = true) (hf : Region.free .any ops ls i = true) (hr : (Region.ready .any ops ls).contains i = true) (hg : o.guard = none) (hd : o.dst = d)
    (h : OpQ P B W o os st fun v upd => aA P B W ops os n (ls.setIfInBounds i true) K ((st.upds upd).put d v)) : aA P B W ops os (n + 1) ls K st :=
  aA.take_ hi hs hf hr (fun a w _ => by simp [Region.wanted, hg]) hd h
theorem aA.t_yes {j d : Nat} {want b : Bool} {dd : Option Tmp} (hi : ops[i]? = some o) (hs : Region.noSelect ops = true) (hf : Region.free .any ops ls i = true) (hr : (Region.ready .any ops ls).contains i = true) (hg : o.guard = some (j, want)) (hdd : o.dst = dd) (hd : (ops[j]?).bind (·.dst) = some d) (hv : st.ev (.tmp d) = .t (.bool b)) (hb : b = want)
    (h : OpQ P B W o os st fun v upd => aA P B W ops os n (ls.setIfInBounds i true) K ((st.upds upd).put dd v)) : aA P B W ops os (n + 1) ls K st :=
  aA.take_ hi hs hf hr (fun a w hsim => by have hy := yield_at hsim hd hv; simp [Region.wanted, hg, hy, hb]) hdd h
theorem aA.t_n {dd : Option Tmp} (hi : ops[i]? = some o) (hs : Region.noSelect ops = true) (hf : Region.free .any ops ls i = true) (hr : (Region.ready .any ops ls).contains i = true) (hw : ∀ a w, Sim P B W st a w → Region.wanted o (yielded ops a.tmps) = false) (hdd : o.dst = dd)
    (h : aA P B W ops os n (ls.setIfInBounds i true) K (st.put dd (.lit undef))) : aA P B W ops os (n + 1) ls K st := fun w0 X a w pl F hsim hX => by
  subst hdd
  exact wpAnyH_take (v := undef) hi hs hf hr (fun c a w hq => hq) (.inr ⟨hw a w ⟨pl, F, hsim⟩, rfl⟩) hX.sx (h w0 X _ _ pl F (hsim.undefW _) hX.put)
theorem aA.t_no {j d : Nat} {want b : Bool} {dd : Option Tmp} (hi : ops[i]? = some o) (hs : Region.noSelect ops = true) (hf : Region.free .any ops ls i = true) (hr : (Region.ready .any ops ls).contains i = true) (hg : o.guard = some (j, want)) (hdd : o.dst = dd) (hd : (ops[j]?).bind (·.dst) = some d) (hv : st.ev (.tmp d) = .t (.bool b)) (hb : b = !want)
    (h : aA P B W ops os n (ls.setIfInBounds i true) K (st.put dd (.lit undef))) : aA P B W ops os (n + 1) ls K st :=
  aA.t_n hi hs hf hr (fun a w hsim => by have hy := yield_at hsim hd hv; subst hb; cases want <;> simp [Region.wanted, hg, hy]) hdd h
theorem aA.t_not {j d : Nat} {want : Bool} {dd : Option Tmp} (hi : ops[i]? = some o) (hs : Region.noSelect ops = true) (hf : Region.free .any ops ls i = true) (hr : (Region.ready .any ops ls).contains i = true) (hg : o.guard = some (j, want)) (hdd : o.dst = dd) (hd : (ops[j]?).bind (·.dst) = some d) (hv : st.ev (.tmp d) = .lit undef)
    (h : aA P B W ops os n (ls.setIfInBounds i true) K (st.put dd (.lit undef))) : aA P B W ops os (n + 1) ls K st :=
  aA.t_n hi hs hf hr (fun a w hsim => by have hy := yield_not hsim hd hv; simp [Region.wanted, hg, hy]) hdd h
theorem aA.t_d {j d : Nat} {want : Bool} {p : Prop} [Decidable p] {dd : Option Tmp} (hi : ops[i]? = some o) (hg : o.guard = some (j, want)) (hdd : o.dst = dd) (hd : (ops[j]?).bind (·.dst) = some d) (hv : st.ev (.tmp d) = .t (.bool (decide p)))
    (h1 : p → aA P B W ops os n ls K st) (h2 : ¬ p → aA P B W ops os n ls K st) : aA P B W ops os n ls K st := by
  by_cases hp : p
  · exact h1 hp
  · exact h2 hp
theorem aA.t_2 {j d : Nat} {want b : Bool} {dd : Option Tmp} (hi : ops[i]? = some o) (hg : o.guard = some (j, want)) (hdd : o.dst = dd) (hd : (ops[j]?).bind (·.dst) = some d) (hv : st.ev (.tmp d) = .t (.bool b))
    (h1 : b = true → aA P B W ops os n ls K st) (h2 : b = false → aA P B W ops os n ls K st) : aA P B W ops os n ls K st := by
  cases b
  · exact h2 rfl
  · exact h1 rfl
end

/-! ### Weaker states, where slots were written twice -/
def leU (r : List (Nat × V)) : List (Nat × V) → List Nat → Prop
  | [], _ => True
  | (i, v) :: r', seen => (match seen.elem i with | true => True | false => lookT r i = v) ∧ leU r r' (i :: seen)
theorem leU_at {r : List (Nat × V)} : ∀ {r' : List (Nat × V)} {seen : List Nat}, leU r r' seen → ∀ i, i ∉ seen → lookT r' i = .junk ∨ ∃ v, (i, v) ∈ r' ∧ lookT r' i = v ∧ lookT r i = v
  | [], _, _, i, _ => .inl rfl
  | (j, v) :: r', seen, h, i, hi => by
    rw [lookT_cons]
    by_cases hj : j = i
    · subst hj
      rw [if_pos rfl]
      have h1 := h.1
      have h2 : seen.elem j = false := by simpa using hi
      rw [h2] at h1
      exact .inr ⟨v, by simp, rfl, h1⟩
    · rw [if_neg hj]
      rcases leU_at h.2 i (by simp only [List.mem_cons, not_or]; exact ⟨fun e => hj e.symm, hi⟩) with h1 | ⟨v', h1, h2⟩
      · exact .inl h1
      · exact .inr ⟨v', by simp [h1], h2⟩
def leOU (objs : List (Nat × Nat × Ob)) : List (Nat × Nat × Ob) → List Nat → Prop
  | [], _ => True
  | (o, e, b) :: r, seen => (match seen.elem o with | true => True | false => look objs o = some (e, b)) ∧ leOU objs r (o :: seen)
theorem leOU_at {objs : List (Nat × Nat × Ob)} : ∀ {l : List (Nat × Nat × Ob)} {seen : List Nat}, leOU objs l seen → ∀ o x, o ∉ seen → look l o = some x → look objs o = some x
  | [], _, _, o, x, _, h => by cases h
  | (i, e, b) :: r, seen, hl, o, x, ho, h => by
    rw [look_cons] at h
    split at h
    · rename_i hi
      subst hi
      have h1 := hl.1
      have h2 : seen.elem i = false := by simpa using ho
      rw [h2] at h1
      rw [← h]; exact h1
    · rename_i hi
      exact leOU_at hl.2 o x (by simp only [List.mem_cons, not_or]; exact ⟨fun e => hi e.symm, ho⟩) h
theorem closedB_at {st' : St} (hc : closedB st' = true) (o : Nat) (h : o ∈ st'.tmps.flatMap (fun p => ids2 p.2) ∨ ∃ i e ob, look st'.objs i = some (e, ob) ∧ o ∈ idsOb ob) : ∃ x, look st'.objs o = some x := by
  have hm : o ∈ idsAll st' := by
    rcases h with h | ⟨i, e, ob, h1, h2⟩
    · exact List.mem_append_left _ h
    · exact List.mem_append_right _ (List.mem_flatMap.2 ⟨_, look_mem h1, h2⟩)
  exact look_has (List.all_eq_true.1 hc o hm)
theorem Le.ofU {st st' : St} (hn : st'.n = st.n) (ht : leU st.tmps st'.tmps []) (ho : leOU st.objs st'.objs []) (hc : closedB st' = true) : Le st st' :=
  ⟨hn, fun i => leU_at ht i (by simp), fun o x h => leOU_at ho o x (by simp) h, closedB_at hc⟩
theorem lookT_mem : ∀ (r : List (Nat × V)) (i : Nat), lookT r i = .junk ∨ (i, lookT r i) ∈ r
  | [], i => .inl rfl
  | (j, v) :: r, i => by
    rw [lookT_cons]
    by_cases hj : j = i
    · subst hj; rw [if_pos rfl]; exact .inr (by simp)
    · rw [if_neg hj]
      rcases lookT_mem r i with h | h
      · exact .inl h
      · exact .inr (by simp [h])
theorem Le.self {st st' : St} (h0 : st = st') (hc : closedB st' = true) : Le st st' := by
  subst h0
  exact ⟨rfl, fun i => (lookT_mem st.tmps i).imp id fun h => ⟨_, h, rfl, rfl⟩, fun _ _ h => h, closedB_at hc⟩

/-! ### Regions -/
theorem LetsOut.mono_ {Q Q' : Exit → Act → World → Prop} (hq : ∀ e a w, Q e a w → Q' e a w) : LetsOut Q → LetsOut Q' := fun ⟨a, w, h⟩ => ⟨a, w, hq _ _ _ h⟩
theorem Oper.wp_monoQ {P : Program} {o : Oper} {a : Act} {w : World} {K : Act → World → Prop} {Q Q' : Exit → Act → World → Prop} (hq : ∀ e a w, Q e a w → Q' e a w)
    (hh : o.wp P a w K Q) : o.wp P a w K Q' := by
  unfold Oper.wp at *
  generalize (execOp a.eval o).run P w = r at *
  cases r with
  | ok n w' =>
    cases n <;> simp only [Oper.upon] at hh ⊢ <;>
      first
        | exact hh
        | exact Calls.mono hh (fun e w'' he => by cases e <;> first | exact (LetsOut.mono_ hq he) | exact hq _ _ _ he | exact he)
  | halt x w' => cases x <;> simp only [Oper.upon] at hh ⊢ <;> first | exact hq _ _ _ hh | exact hh
theorem wpOp_monoQ {P : Program} {ops : Array Oper} {i : Nat} {K : Act → World → Prop} {a : Act} {w : World} {Q Q' : Exit → Act → World → Prop} (hq : ∀ e a w, Q e a w → Q' e a w)
    (hh : wpOp P ops Q i K a w) : wpOp P ops Q' i K a w := by
  unfold wpOp at *
  split
  · simpa [*] using hh
  · rename_i o ho
    simp only [ho] at hh
    split
    · rename_i hw
      simp only [hw, if_true] at hh
      rcases hh with hh | ⟨h1, h2⟩
      · exact .inl (Oper.wp_monoQ hq hh)
      · exact .inr ⟨h1, LetsOut.mono_ hq h2⟩
    · rename_i hw; simp only [hw] at hh; exact hh
theorem wpAny_mono {P : Program} {ops : Array Oper} {md : Region.Mode} {Q Q' : Exit → Act → World → Prop} (hq : ∀ e a w, Q e a w → Q' e a w) : ∀ {n : Nat} {ls : Array Bool} {a : Act} {w : World}, wpAny P md ops Q n ls a w → wpAny P md ops Q' n ls a w
  | 0, ls, a, w, h => ⟨h.1, hq _ _ _ h.2⟩
  | n + 1, ls, a, w, h => ⟨fun h0 => hq _ _ _ (h.1 h0), fun i hi => wpOp_monoQ hq (wpOp_mono (fun a w h => wpAny_mono hq h) (h.2 i hi))⟩
section
variable {P : Program} {B : Nat → Prop} {W : En} {Q : Exit → St → Prop} {st : St}
theorem Sim.drawn {a : Act} {w : World} (hs : Sim P B W st a w) : Sim P B W st a { w with drawn := w.drawn + 1 } := by
  obtain ⟨pl, F, hs⟩ := hs
  exact ⟨pl, F, hs.below_ ⟨rfl, rfl, rfl, Nat.le_refl _, fun _ _ => rfl⟩⟩
/-- A region that draws its order: every order is walked, and what follows is shown at each end. -/
theorem aA.start {ops : Array Oper} {n : Nat} {ls : Array Bool} {K : St → Prop} {os : List Nat} (h : aA P B W ops os n ls K st) {a : Act} {w : World} (hs : Sim P B W st a w) : wpAny P .any ops (QN P B W K) n ls a w := by
  obtain ⟨pl, F, hs⟩ := hs
  exact wpAny_of_held _ _ _ _ (h w (fun _ => False) a w pl F hs fun b hb => hb.elim)
theorem aW.draw_k {os : List Nat} {id n : Nat} {l : List Oper} (hm : P.follows .mixedOrders = true) (hsz : l.toArray.size = n) (h : aA P B W l.toArray os n (Array.replicate n false) (Q .normal) st) : aW P B W (.region id l.toArray true) Q st := fun a w hs =>
  wp_region_any hm (by
    subst hsz
    have h1 := h.start hs.drawn
    refine wpAny_mono ?_ h1
    intro e a w hq
    cases e with
    | normal => exact hq
    | _ => exact hq.elim)
/-- The same: the ends are alike, and what follows is shown once. -/
theorem aW.draw {os : List Nat} {id n : Nat} {l : List Oper} {st' : St} (hm : P.follows .mixedOrders = true) (hsz : l.toArray.size = n) (h : aA P B W l.toArray os n (Array.replicate n false) (fun s => Le s st') st) (hn : Q .normal st') : aW P B W (.region id l.toArray true) Q st := fun a w hs =>
  wp_region_any hm (by
    subst hsz
    refine wpAny_mono ?_ (h.start hs.drawn)
    intro e a w hq
    cases e with
    | normal =>
      obtain ⟨s, h1, h2⟩ := hq
      exact ⟨st', h1.weak h2, hn⟩
    | _ => exact hq.elim)
end
end Go.Proofs.Ytmkpgcahmbancaa.Ab
