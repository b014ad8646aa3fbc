/- What is proved: the calculus of abstract states: a store into the cell that was taken out of a row.
   Conditions: none beyond those that each lemma names. -/
import Derived.Test.YtmkpgcahmbancaaAbsS
namespace Go.Proofs.Ytmkpgcahmbancaa.Ab
set_option linter.unusedSimpArgs false
set_option linter.unusedVariables false
open Go.RowKit
section
variable {P : Program} {B : Nat → Prop} {W : En} {o : Oper} {st : St} {KE : V → List (Nat × Nat × Ob) → Prop}
theorem OpS.store_hole {ty : TypeId} {x z : Operand} {i ep n off q : Nat} {zz z2 : V} {e : TypeId} {els : List (List T)} {y : Ty} {v : V} {s : Nat} (ho : o.op = .store ty x z) (hx : st.ev x = .ptr i ep n off) (hl : look st.objs i = some (ep, .hole e els q zz)) (hy : tinfo P ty = some y)
    (hz : st.ev z = v) (hc : cellsV v = [z2]) (hs : V.sto z2 = true) {ye : Ty} (hye : tinfo P e = some ye) (hsz : ye.size = s) (hq : q = n * s + off) (hsy : y.size = 1) (hK : KE (.lit undef) [(i, ep, .hole e els q z2)]) : OpS P B W o st KE := by
  subst hz
  have hs' : (cellsV (st.ev z)).all V.sto = true := by rw [hc]; simp [hs]
  refine OpS.chg (ks := []) hK (fun x e h => by cases h) fun a w pl F h => ?_
  have h1 := h.ev x
  rw [hx] at h1
  obtain ⟨_, ep', ob, h2, h3, h4⟩ : C0 P w (look st.objs) pl (Free B W.o (look st.objs) F w) (.ptr i ep n off) (a.eval x) := h1
  rw [hl] at h2
  cases h2
  obtain ⟨g, bb, hg, hu⟩ := h4 rfl
  obtain ⟨us, fs, s1, s2, s3, s4, s5, s6, s7, s8, s9⟩ := h.objs i _ _ hl
  have hes : P.cellsOf e = s := by rw [cellsOf_t hye, hsz]
  obtain ⟨vs, hv1, hv2, hv3⟩ := ((h.ev z).c1 hs').cells hs'
  have hlen : vs.length = 1 := by rw [hv2.1, hc]; rfl
  have key : ∃ cap cur fz, pl i = .slice (some ⟨g, bb, none⟩) els.length cap ∧ w.heap[g]? = some (.cells cur e fz) ∧ (fz = (0, 0) ∨ cur.size ≤ fz.1) ∧ els.length ≤ cap ∧ cap ≤ maxLen ∧ bb + cap * P.cellsOf e ≤ cur.size ∧ (cur.toList.drop bb).take (els.length * P.cellsOf e) = us := by
    rcases s1.2 with ⟨h0, h0'⟩ | ⟨g', off', cap, cur, fz, e1, rest⟩
    · have h0 := s1.1
      rw [h0'] at h0
      omega
    · rw [e1] at hg
      simp only [blk, Option.some.injEq, Prod.mk.injEq] at hg
      obtain ⟨rfl, rfl⟩ := hg
      exact ⟨cap, cur, fz, e1, rest⟩
  obtain ⟨cap, cur, fz, k1, k3, k4, k5, k6, k7, k8⟩ := key
  have hul : us.length = els.length * P.cellsOf e := s1.1
  have hcap : bb + els.length * P.cellsOf e ≤ cur.size := Nat.le_trans (Nat.add_le_add_left (Nat.mul_le_mul_right _ k5) _) k7
  have hqe : n * P.cellsOf e + off = q := by rw [hes, hq]
  have hrun := run_storeCells_g P g (bb + q) e fz vs 0 cur w k3 k4 (by omega) hv3
  have hcur : (cur.toList.take (bb + q + 0) ++ vs ++ cur.toList.drop (bb + q + 0 + vs.length)) = setRange cur.toList (bb + q) vs := rfl
  rw [hcur] at hrun
  have htop : (pl i).ownBlock = some g := by rw [k1]; rfl
  have hFg : F i g := (s8 g).2 (.inl htop)
  have k2 : W.o g := (h.range i _ g hl hFg).1
  have hu' : a.eval x = .pointer (some ⟨g, bb + q, none⟩) := by rw [← hqe]; exact hu
  have hother : ∀ b, ¬ (b = g) → (w.setRow g (setRange cur.toList (bb + q) vs).toArray).heap[b]? = w.heap[b]? := fun b hb => setRow_other w g _ b hb
  refine ⟨_, _, pl i, F i, undef, exec_store ho hy hu' (by rw [hv1]; simp; omega) (by rw [hv1]; exact hrun), .inr ⟨rfl, rfl⟩, below_setRow k2 _, fun b hb hf => setRow_other w g _ b fun e => hf _ hl (e ▸ hFg), fun ep0 ob0 h0 => ?_, fun h0 => (by rw [hl] at h0; cases h0), fun b hb => .inr (.inl ⟨_, hl, hb⟩), fun lk' pl' Fr' gg _ _ _ => ⟨?_, rfl⟩⟩
  · rw [hl] at h0; cases h0; exact .inr ⟨rfl, rfl, rfl, rfl⟩
  · refine ⟨setRange us q vs, fs, ?_, s2, by rw [setRange_len _ _ _ (by omega)]; exact s3, fun k y u hk hy hu => ?_, fun u hu => ?_, s6, s7, s8, by rw [setRange_len _ _ _ (by omega)]; exact s9⟩
    · refine ⟨by rw [setRange_len _ _ _ (by omega)]; exact s1.1, .inr ⟨g, bb, cap, _, fz, k1, setRow_heap w g cur _ e fz k3, ?_, k5, k6, ?_, ?_⟩⟩
      · rcases k4 with k4 | k4
        · exact .inl k4
        · exact .inr (by rw [List.size_toArray, setRange_len _ _ _ (by simp; omega)]; simpa using k4)
      · rw [List.size_toArray, setRange_len _ _ _ (by simp; omega)]; simpa using k7
      · rw [List.toList_toArray, setRange_drop _ _ _ _ (by simp; omega), setRange_take _ _ _ _ (by omega) (by simp; omega), k8]
    · rw [setRange_get _ _ _ _ (by omega), if_neg (by omega)] at hu
      refine (s4 k y u hk hy hu).keep fun b hb => hother b fun e => ?_
      exact s7 k b hk hb (e ▸ htop)
    · rw [setRange_get _ _ _ _ (by omega), if_pos (by omega), Nat.sub_self] at hu
      exact C0.goes gg (hv2.2 0 z2 u (by rw [hc]; rfl) hu)
end
theorem pxhst {X Y : Prop} (h : Y) (r : Hld Y → X := by intro h; (refine q4ed5 (n := 8) ?_; exact OpS.store_hole rfl rfl rfl (Try.ti rfl) rfl (by first | exact (show cellsV (V.hnd _ _) = [V.hnd _ _] from rfl) | exact rfl) rfl (Try.ti rfl) rfl (by first | (simp; done) | (simp; omega)) rfl h.out)) : X := r ⟨h⟩
end Go.Proofs.Ytmkpgcahmbancaa.Ab
