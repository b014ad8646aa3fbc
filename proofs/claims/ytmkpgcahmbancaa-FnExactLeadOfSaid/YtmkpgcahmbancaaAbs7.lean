/- What is proved: the steps of single operations on abstract states: rows that are made, built, appended to.
   Conditions: none beyond those that each lemma names. -/
import Derived.Test.YtmkpgcahmbancaaAbs6
import Derived.Great.BuildSlice
import Derived.Lib.AppendStr
namespace Go.Proofs.Ytmkpgcahmbancaa.Ab
set_option linter.unusedSimpArgs false
set_option linter.unusedVariables false
open Go.RowKit

/-! ### Append -/
theorem frozen_g {w : World} {g j : Nat} {cur : Array Value} {t : TypeId} {fz : Nat × Nat} (hg : w.heap[g]? = some (.cells cur t fz)) (hfz : fz = (0, 0) ∨ cur.size ≤ fz.1) (hj : j < cur.size) : w.frozen? ⟨g, j, none⟩ = false := by
  obtain ⟨lo, hi⟩ := fz
  simp only [World.frozen?, hg, Bool.and_eq_false_iff, decide_eq_false_iff_not]
  rcases hfz with h | h
  · cases h; right; omega
  · left; simp only at h; omega
theorem run_storeCells_g (P : Program) (g o : Nat) (t : TypeId) (fz : Nat × Nat) : ∀ (vs : List Value) (i : Nat) (cur : Array Value) (w : World), w.heap[g]? = some (.cells cur t fz) → (fz = (0, 0) ∨ cur.size ≤ fz.1) → o + i + vs.length ≤ cur.size → (∀ v ∈ vs, v.oneCell' = true) →
    (storeCells ⟨g, o, none⟩ vs i).run P w = .ok () (w.setRow g (cur.toList.take (o + i) ++ vs ++ cur.toList.drop (o + i + vs.length)).toArray)
  | [], i, cur, w, hg, _, _, _ => by
    simp only [storeCells, List.append_nil, List.length_nil, Nat.add_zero, List.take_append_drop, Array.toArray_toList]
    rw [setRow_self w g cur t fz hg]
    rfl
  | v :: rest, i, cur, w, hg, hfz, hl, h1 => by
    have hi : o + i < cur.size := by simp at hl; omega
    have hadd : (⟨g, o, none⟩ : Addr).add i = ⟨g, o + i, none⟩ := add_lit0 g o i
    have hcell : w.cell? ⟨g, o + i, none⟩ = some cur[o + i] := by simp [World.cell?, hg, hi]
    have hfro : w.frozen? ⟨g, o + i, none⟩ = false := frozen_g hg hfz hi
    have hst : (store ((⟨g, o, none⟩ : Addr).add i) v).run P w = .ok () (w.setRow g (cur.setIfInBounds (o + i) v)) := by
      rw [hadd, run_store P w _ v _ (h1 v (by simp)), hcell]
      simp [hfro, setCell_eq_setRow w g (o + i) cur t fz v hg]
    have ih := run_storeCells_g P g o t fz rest (i + 1) (cur.setIfInBounds (o + i) v) (w.setRow g (cur.setIfInBounds (o + i) v)) (setRow_heap w g cur _ t _ hg) (by simpa using hfz) (by simp at hl ⊢; omega) (fun x hx => h1 x (by simp [hx]))
    simp only [storeCells, Sem.run_bind, hst, Result.andThen_ok, ih, setRow_setRow]
    congr 3
    have e := list_seg_step cur.toList (o + i) v rest (by simp at hl ⊢; omega)
    simpa [Array.toList_setIfInBounds, Nat.add_assoc] using e
set_option maxHeartbeats 1000000 in
theorem run_append_g {P : Program} (w : World) {t xt ty e : TypeId} {y yx : Ty} {es eb : Nat} {ye : Ty} {zs : List V} (hy : tinfo P t = some y) (hk : y.k = .slice e es eb) (hyx : tinfo P xt = some yx) (hkx : yx.k = .str ∨ ∃ a b c, yx.k = .slice a b c) (hye : tinfo P e = some ye) (hz : ye.zero = some zs) (hzl : zs.length = es)
    {v : Value} {n : Nat} {xs : List Value} (hown : OwnsR w e es v n xs) {x : Value} {m : Nat} {news : List Value} (hlen : (Builtin.lenOf x).run P w = .ok m w) (hcells : ∀ k, (Builtin.firstCells es m x).run P (w.drewN k) = .ok news.toArray (w.drewN k)) (hl : news.length = m * es) (h1 : ∀ u ∈ news, u.oneCell' = true)
    (h63 : n + m ≤ maxLen) (hbytes : (n + m) * eb ≤ 140737488355328) :
    ∃ v' w', (Builtin.append_ #[t, xt] ty #[v, x]).run P w = .ok v' w' ∧ OwnsR w' e es v' (n + m) (xs ++ news) ∧ w.grownBy w' v.ownBlock ∧ (v'.ownBlock = v.ownBlock ∨ (v'.ownBlock = some w.heap.size ∧ w.heap.size < w'.heap.size)) := by
  obtain ⟨ht, hes', heb⟩ := slice_t hy hk
  obtain ⟨dx, ix, hux, _, hkx', _⟩ := tinfo_parts hyx
  obtain ⟨de, i, hue, hi, _, hsz, hby, hzero⟩ := tinfo_parts hye
  have hsi : i.size = es := by rw [← hes']; simp [Program.cellsOf, hi]
  have hbi : i.bytes = eb := by rw [← heb]; simp [Program.bytesOf, hi]
  rw [hz] at hzero
  obtain ⟨z, hz1, hz2⟩ := Option.map_eq_some_iff.1 hzero.symm
  have hzs : z.cells.size = es := by rw [← hzl, ← hz2]; simp
  have hlen' : (xs ++ news).length = (n + m) * es := by rw [List.length_append, hown.1, hl, Nat.add_mul]
  have hdx : dx = .string ∨ ∃ e', dx = .slice e' := by
    rw [hkx'] at hkx
    cases dx <;> first | exact .inl rfl | exact .inr ⟨_, rfl⟩ | (rcases hkx with h | ⟨a, b, c, h⟩ <;> cases h)
  have hc0 : (Builtin.firstCells es m x).run P w = .ok news.toArray w := hcells 0
  have hc1 : (Builtin.firstCells es m x).run P w.drew = .ok news.toArray w.drew := hcells 1
  have grow : ∀ (base : Option Addr) (cap : Nat), v = .slice base n cap → cap < n + m → (Builtin.firstCells es n v).run P w.drew = .ok xs.toArray w.drew → ∃ v' w', (Builtin.append_ #[t, xt] ty #[v, x]).run P w = .ok v' w' ∧ OwnsR w' e es v' (n + m) (xs ++ news) ∧ w.grownBy w' v.ownBlock ∧ (v'.ownBlock = v.ownBlock ∨ (v'.ownBlock = some w.heap.size ∧ w.heap.size < w'.heap.size)) := by
    intro base cap hv hg hold
    have hge := grownCap_ge w (n + m) cap e
    have hcm : grownCap w (n + m) cap e ≤ maxLen := grownCap_le_maxLen w (n + m) cap e h63
    have hnr : ¬ (n + m ≤ cap) := by omega
    have h63' : ¬ (9223372036854775807 < ((n : Int) + (m : Int))) := by simp only [maxLen] at h63; omega
    have hfit := growslice_fits (need := n + m) (old := cap) (bytes := eb) hg hbytes
    have h48' : ¬ (281474976710656 < Builtin.nextslicecap (n + m) cap * eb) := by omega
    refine ⟨.slice (some ⟨w.heap.size, 0, none⟩) (n + m) (grownCap w (n + m) cap e), w.drew.alloc (.cells (xs.toArray ++ news.toArray ++ Builtin.zeroCells z.cells (grownCap w (n + m) cap e - (n + m))) e), ?_, ⟨hlen', .inr ⟨w.heap.size, 0, _, _, (0, 0), rfl, heap_alloc_new w.drew _, .inl rfl, hge, hcm, ?_, ?_⟩⟩, ⟨rfl, rfl, rfl, by simp, fun k hk _ => Below.heap_alloc w.drew _ k hk⟩, .inr ⟨rfl, by simp⟩⟩
    · subst hv
      rcases hdx with rfl | ⟨e', rfl⟩ <;> (simp [Builtin.append_, run_underlying ht, run_underlying hux, sizeOf, typeInfo, zeroValue, hi, hz1, hsi, hbi, hlen, hnr, h63', h48', Question.forced, hc1, hold, newRow, grownCap]; first | done | (congr 2; apply Array.ext'; simp [List.append_assoc]))
    · simp only [Array.size_append, List.size_toArray, size_zeroCells, hzs, hown.1, hl, ← Nat.add_mul]
      rw [Nat.zero_add]
      refine Nat.le_of_eq ?_
      congr 1
      omega
    · simp only [Array.toList_append, List.append_assoc, List.drop_zero]
      rw [← List.append_assoc, ← hlen']
      exact List.take_left
  rcases hown.2 with ⟨rfl, rfl⟩ | ⟨g, off, cap, cur, fz, rfl, hg, hfz, hnc, hcm, hcs, htake⟩
  · have hx : xs = [] := List.eq_nil_of_length_eq_zero (by simpa using hown.1)
    subst hx
    by_cases hm : m = 0
    · subst hm
      have hn : news = [] := List.eq_nil_of_length_eq_zero (by simpa using hl)
      subst hn
      refine ⟨.slice none 0 0, w, ?_, OwnsR.nil _ _ _, World.grownBy.refl w _, .inl rfl⟩
      rcases hdx with rfl | ⟨e', rfl⟩ <;> (simp [Builtin.append_, run_underlying ht, run_underlying hux, sizeOf, typeInfo, hi, hsi, hlen, hc0])
    · exact grow none 0 rfl (by omega) (by simp [Builtin.firstCells])
  · by_cases hroom : n + m ≤ cap
    · have hle : off + n * es + news.length ≤ cur.size := by
        have : (n + m) * es ≤ cap * es := Nat.mul_le_mul_right _ hroom
        rw [Nat.add_mul] at this
        rw [hl]
        omega
      have hst := run_storeCells_g P g (off + n * es) e fz news 0 cur w hg hfz (by simpa using hle) h1
      simp only [Nat.add_zero] at hst
      have htl : (cur.toList.take (off + n * es)).length = off + n * es := by rw [List.length_take]; simp; omega
      refine ⟨.slice (some ⟨g, off, none⟩) (n + m) cap, w.setRow g (cur.toList.take (off + n * es) ++ news ++ cur.toList.drop (off + n * es + news.length)).toArray, ?_, ⟨hlen', .inr ⟨g, off, cap, (cur.toList.take (off + n * es) ++ news ++ cur.toList.drop (off + n * es + news.length)).toArray, fz, rfl, setRow_heap w g cur _ e fz hg, ?_, hroom, hcm, ?_, ?_⟩⟩, ⟨rfl, rfl, rfl, by simp, fun k _ hk => setRow_other w g _ k fun e => hk (by rw [e]; rfl)⟩, .inl rfl⟩
      · rcases hdx with rfl | ⟨e', rfl⟩ <;> (simp [Builtin.append_, run_underlying ht, run_underlying hux, sizeOf, typeInfo, hi, hsi, hlen, hc0, hroom, add_lit0, hst])
      · rcases hfz with h | h
        · exact .inl h
        · right
          simp only [List.size_toArray, List.length_append, htl, List.length_drop, Array.length_toList]
          omega
      · simp only [List.size_toArray, List.length_append, htl, List.length_drop, Array.length_toList]
        omega
      · have hdt : (cur.toList.take (off + n * es)).drop off = xs := by
          rw [← htake, List.drop_take]
          congr 1
          omega
        rw [List.toList_toArray, List.append_assoc, List.drop_append_of_le_length (by rw [htl]; omega), hdt, ← List.append_assoc, ← hlen']
        exact List.take_left
    · refine grow _ cap rfl (by omega) ?_
      refine run_firstCells_some (P := P) w.drew es n _ n cap xs hown.1 fun j u hu => ?_
      rw [add_lit0]
      rw [← htake, List.getElem?_take] at hu
      split at hu
      · rw [List.getElem?_drop] at hu
        show w.cell? ⟨g, off + j, none⟩ = some u
        rw [cell_of_row w g (off + j) cur e fz hg]
        simpa using hu
      · cases hu
end Go.Proofs.Ytmkpgcahmbancaa.Ab
