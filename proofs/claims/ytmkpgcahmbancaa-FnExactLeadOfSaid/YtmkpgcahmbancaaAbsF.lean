/- What is proved: the calculus of abstract states: struct literals.
   Conditions: none beyond those that each lemma names. -/
import Derived.Test.YtmkpgcahmbancaaAbsD
import Derived.Great.FillDense
import Derived.Laws.Tables
namespace Go.Proofs.Ytmkpgcahmbancaa.Ab
set_option linter.unusedSimpArgs false
set_option linter.unusedVariables false
open Go.RowKit
def fillV (fs : List (Nat × Nat)) : List V → List (Nat × V) → Option (List V)
  | cs, [] => some cs
  | cs, (i, v) :: r => match fs[i]? with
    | some (off, n) => if ((cellsV v).all V.sto && Nat.beq (cellsV v).length n && Nat.ble (off + n) cs.length) = true then fillV fs (setRange cs off (cellsV v)) r else none
    | none => none
theorem mapM_places {P : Program} : ∀ {gs : List Field}, (∀ f ∈ gs, P.cellsOf f.type ≠ 0) → gs.mapM (fun f => (P.info? f.type).map fun i => (f.offset, i.size)) = some (gs.map fun f => (f.offset, P.cellsOf f.type))
  | [], _ => rfl
  | f :: gs, h => by
    have ih := mapM_places (gs := gs) fun x hx => h x (by simp [hx])
    have h0 := h f (by simp)
    cases hi : P.info? f.type with
    | none => exact absurd (by simp [Program.cellsOf, hi]) h0
    | some i => simp [List.mapM_cons, hi, ih, Program.cellsOf]
section
variable {P : Program} {B : Nat → Prop} {W : En} {o : Oper} {os : List Nat} {st : St} {KE : V → List (Nat × Nat × Ob) → Prop}
theorem fill_step (us vs : List Value) (off : Nat) (h : off + vs.length ≤ us.length) : ((vs.toArray.zipIdx.foldl (fun cs (x : Value × Nat) => cs.setIfInBounds (off + x.2) x.1) us.toArray)) = (setRange us off vs).toArray := by
  have h1 := Great.foldl_set off vs 0 us.toArray
  have h2 : vs.toArray.zipIdx.foldl (fun cs (x : Value × Nat) => cs.setIfInBounds (off + x.2) x.1) us.toArray = (vs.zipIdx 0).foldl (fun cs (x : Value × Nat) => cs.setIfInBounds (off + x.2) x.1) us.toArray := by
    simp
  rw [h2]
  apply Array.ext'
  apply List.ext_getElem?
  intro k
  rw [Array.getElem?_toList, h1.2 k, setRange_get _ _ _ _ h]
  simp only [Nat.add_zero, List.size_toArray, List.getElem?_toArray]
  by_cases hk : off ≤ k ∧ k < off + vs.length
  · rw [if_pos ⟨hk.1, hk.2, by omega⟩, if_pos hk]
  · rw [if_neg (fun e => hk ⟨e.1, e.2.1⟩), if_neg hk]
theorem SimW.fill {a : Act} {w : World} {pl : Nat → Value} {F : Nat → Nat → Prop} (hs : SimW P B W st a w pl F) {fs : List (Nat × Nat)} : ∀ {xs : List (Nat × Operand)} {cs cs' : List V} {us : List Value}, Pw (C0 P w (look st.objs) pl (Free B W.o (look st.objs) F w)) cs us →
    fillV fs cs (xs.map fun p => (p.1, st.ev p.2)) = some cs' → ∃ us', Instr.fill (fs.toArray[·]?) us.toArray (xs.map fun p => (p.1, a.eval p.2)) = some us'.toArray ∧ Pw (C0 P w (look st.objs) pl (Free B W.o (look st.objs) F w)) cs' us'
  | [], cs, cs', us, hp, h => by
    cases h
    exact ⟨us, rfl, hp⟩
  | (i, x) :: xs, cs, cs', us, hp, h => by
    simp only [List.map_cons, fillV] at h
    split at h
    · rename_i off n hf
      split at h
      · rename_i hc
        rw [Bool.and_eq_true, Bool.and_eq_true] at hc
        obtain ⟨⟨c1, c2⟩, c3⟩ := hc
        have c2 := Nat.eq_of_beq_eq_true c2
        have c3 := Nat.le_of_ble_eq_true c3
        obtain ⟨vs, g1, g2, _⟩ := ((hs.ev x).c1 c1).cells c1
        have hvl : vs.length = n := by rw [g2.1, c2]
        have hul : us.length = cs.length := hp.1
        obtain ⟨us', k1, k2⟩ := SimW.fill hs (hp.setRange g2 off) h
        refine ⟨us', ?_, k2⟩
        simp only [List.map_cons, Instr.fill]
        have hf' : fs.toArray[i]? = some (off, n) := by simpa using hf
        rw [hf']
        simp only []
        have hsz : (a.eval x).cells.size = n := by rw [g1]; simpa using hvl
        rw [if_neg (by rw [hsz]; simp; omega), g1, fill_step us vs off (by omega)]
        exact k1
      · cases h
    · cases h
/-- The cells, each in the form that is wanted. -/
inductive NormL : List V → List V → Prop
  | nil : NormL [] []
  | cons {c d : V} {cs ds : List V} : c = d → NormL cs ds → NormL (c :: cs) (d :: ds)
theorem NormL.eq {cs ds : List V} (h : NormL cs ds) : cs = ds := by
  induction h with
  | nil => rfl
  | cons h _ ih => rw [h, ih]
theorem OpQ.build {t : TypeId} {parts : Array (Nat × Operand)} {xs : List (Nat × Operand)} {y : Ty} {fs : List (Nat × Nat)} {zs cs0 cs : List V} (ho : o.op = .build t parts) (hxs : parts.toList = xs) (hy : tinfo P t = some y) (hk : y.k = .struct fs) (hz : y.zero = some zs) (hnz : fs.all (fun p => !Nat.beq p.2 0) = true)
    (hf : fillV fs zs (xs.map fun p => (p.1, st.ev p.2)) = some cs0) (hN : NormL cs0 cs) (hK : KE (.agg cs) []) : OpQ P B W o os st KE :=
  OpQ.pure_ hK fun a w pl F hs => by
    subst hxs
    obtain rfl := hN.eq
    obtain ⟨gs, h1, h2⟩ := struct_t hy hk
    obtain ⟨d, i, hd, hi, _, _, _, hzero⟩ := tinfo_parts hy
    rw [hz] at hzero
    obtain ⟨z, hz1, hz2⟩ := Option.map_eq_some_iff.1 hzero.symm
    have hpz : Pw (C0 P w (look st.objs) pl (Free B W.o (look st.objs) F w)) zs z.cells.toList := by
      rw [← hz2]
      refine ⟨by simp, fun k x u hx hu => ?_⟩
      rw [List.getElem?_map, hu] at hx
      cases hx
      exact constV_ok u
    obtain ⟨us', k1, k2⟩ := SimW.fill hs hpz hf
    have hpl : gs.toList.mapM (fun f => (P.info? f.type).map fun i => (f.offset, i.size)) = some fs := by
      rw [h2]
      refine mapM_places fun f hf0 => ?_
      have := List.all_eq_true.1 hnz (f.offset, P.cellsOf f.type) (by rw [h2]; exact List.mem_map.2 ⟨f, hf0, rfl⟩)
      exact Nat.ne_of_beq_eq_false (by simpa using this)
    refine ⟨.agg us'.toArray, fun w' => ?_, us', rfl, k2.1, fun k v x hv hx => k2.2 k v x hv hx⟩
    unfold execOp
    rw [ho]
    refine exec_value (run_build w' t _ us'.toArray ?_)
    unfold Program.built
    rw [hi, h1]
    simp only [hz1, hpl]
    have e1 : (parts.map fun x => (x.1, a.eval x.2)).toList = parts.toList.map fun p => (p.1, a.eval p.2) := by simp
    rw [e1]
    simpa using k1
theorem OpS.build {t : TypeId} {parts : Array (Nat × Operand)} {xs : List (Nat × Operand)} {y : Ty} {fs : List (Nat × Nat)} {zs cs0 cs : List V} (ho : o.op = .build t parts) (hxs : parts.toList = xs) (hy : tinfo P t = some y) (hk : y.k = .struct fs) (hz : y.zero = some zs) (hnz : fs.all (fun p => !Nat.beq p.2 0) = true)
    (hf : fillV fs zs (xs.map fun p => (p.1, st.ev p.2)) = some cs0) (hN : NormL cs0 cs) (hK : KE (.agg cs) []) : OpS P B W o st KE := (OpQ.build ho hxs hy hk hz hnz hf hN hK).s
end
end Go.Proofs.Ytmkpgcahmbancaa.Ab
