/- What is proved: the calculus of abstract states: a copy over a whole row of flat cells.
   Conditions: none beyond those that each lemma names. -/
import Derived.Test.YtmkpgcahmbancaaAbsZ
namespace Go.Proofs.Ytmkpgcahmbancaa.Ab
set_option linter.unusedSimpArgs false
set_option linter.unusedVariables false
open Go.RowKit
section
variable {P : Program} {B : Nat → Prop} {W : En} {o : Oper} {st : St} {KE : V → List (Nat × Nat × Ob) → Prop}
theorem exec_copy {s x : Operand} {c : Call} {t xt : TypeId} {a : Act} {w w' : World} {u : Value} (ho : o.op = .call c) (h1 : c.callee = .builtin .copy) (h2 : c.args = #[s, x]) (h3 : c.argTypes = #[t, xt]) (hr : (Builtin.copy_ #[t, xt] o.type #[a.eval s, a.eval x]).run P w = .ok u w') : (execOp a.eval o).run P w = .ok (.value u) w' := by
  unfold execOp
  rw [ho]
  simp [resolve, h1, h2, h3, invoke, builtin, hr]
theorem run_copy_g {w w' : World} {t xt ty e : TypeId} {y ye : Ty} {es eb : Nat} (hy : tinfo P t = some y) (hk : y.k = .slice e es eb) (hye : tinfo P e = some ye) {g off n cap : Nat} {x : Value} {news : List Value} (hlen : (Builtin.lenOf x).run P w = .ok n w) (hcells : (Builtin.firstCells es n x).run P w = .ok news.toArray w)
    (hst : (storeCells ⟨g, off, none⟩ news 0).run P w = .ok () w') : (Builtin.copy_ #[t, xt] ty #[.slice (some ⟨g, off, none⟩) n cap, x]).run P w = .ok (goInt n) w' := by
  obtain ⟨ht, hes', heb⟩ := slice_t hy hk
  obtain ⟨de, i, hue, hi, _, hsz, hby, hzero⟩ := tinfo_parts hye
  have hsi : i.size = es := by rw [← hes']; simp [Program.cellsOf, hi]
  simp [Builtin.copy_, run_underlying ht, sizeOf, typeInfo, hi, hsi, hlen, hcells, hst]
theorem OpS.copy_flat {s x : Operand} {c : Call} {t xt e e' es eb i ep n : Nat} {y ye : Ty} {els0 els : List (List T)} {d0 d : Bool} (ho : o.op = .call c) (h1 : c.callee = .builtin .copy) (h2 : c.args = #[s, x]) (h3 : c.argTypes = #[t, xt])
    (hy : tinfo P t = some y) (hk : y.k = .slice e es eb) (hye : tinfo P e = some ye) (hs : st.ev s = .hnd i ep) (hl : look st.objs i = some (ep, .row true d0 e' els0)) (he : e' = e)
    (hsrc : ∀ a w pl F, SimW P B W st a w pl F → SrcOk P B W st a w F x es els [] d) (hu : ∀ a w pl F, SimW P B W st a w pl F → (∀ x ∈ els, x.length = es) ∧ (∀ x ∈ els.flatten, x.flat = true)) (hn : els.length = n) (hn0 : els0.length = n) (hpos : 0 < n)
    (hK : KE (.t (.int .i64 n)) [(i, ep, .row true d0 e els)]) : OpS P B W o st KE := by
  subst he hn
  obtain ⟨ht, hes', heb⟩ := slice_t hy hk
  refine OpS.chg (ks := []) (i := i) (ep := ep) hK (fun x e h => by cases h) fun a w pl F h => ?_
  obtain ⟨us, q1, q2, q3, q4⟩ := hsrc a w pl F h
  obtain ⟨hu1, hu2⟩ := hu a w pl F h
  obtain ⟨g1, us0, hp⟩ := h.hnd_at hs hl
  have hlen : us.length = els.length * es := by rw [q4.len, flatten_len hu1]
  rcases hp.own.2 with ⟨_, h0⟩ | ⟨g, off, cap, cur, fz, e1, k3, k4, k5, k6, k7, k8⟩
  · omega
  have hcap : off + els.length * es ≤ cur.size := by
    have h5 : els0.length * P.cellsOf e' ≤ cap * P.cellsOf e' := Nat.mul_le_mul_right _ k5
    rw [hn0, hes'] at h5
    rw [hes'] at k7
    omega
  have hst := run_storeCells_g P g off e' fz us 0 cur w k3 k4 (by omega) q4.one
  have hrun := run_copy_g (P := P) (xt := xt) (ty := o.type) (cap := cap) hy hk hye q1 (q2 0) hst
  rw [← hn0, ← e1] at hrun
  have hcur : (cur.toList.take (off + 0) ++ us ++ cur.toList.drop (off + 0 + us.length)) = setRange cur.toList off us := rfl
  rw [hcur] at hrun
  have htop : (pl i).ownBlock = some g := by rw [e1]; rfl
  have hFg : F i g := hp.top g htop
  have k2 : W.o g := (h.range i _ g hl hFg).1
  have hown : OwnsR (w.setRow g (setRange cur.toList off us).toArray) e' (P.cellsOf e') (pl i) els.length us := by
    refine ⟨by rw [hes']; exact hlen, .inr ⟨g, off, cap, _, fz, by rw [← hn0]; exact e1, setRow_heap w g cur _ e' fz k3, ?_, by rw [← hn0]; exact k5, k6, ?_, ?_⟩⟩
    · rcases k4 with k4 | k4
      · exact .inl k4
      · exact .inr (by rw [List.size_toArray, setRange_len _ _ _ (by simp; omega)]; simpa using k4)
    · rw [List.size_toArray, setRange_len _ _ _ (by simp; omega)]; simpa using k7
    · rw [List.toList_toArray, hes', ← hlen]
      unfold setRange
      rw [List.append_assoc, List.drop_append_of_le_length (by rw [List.length_take]; simp; omega), List.drop_take]
      simp
  have huni : ∀ x ∈ els, x.length = P.cellsOf e' := fun x hx => by rw [hes']; exact hu1 x hx
  have hll : els.flatten.length = us.length := q4.len.symm
  have hrd : ∀ (k : Nat) (x : T) (u : Value), els.flatten[k]? = some x → us[k]? = some u → Rd P w (fun _ => False) x u := fun k x u hx hu => (q4.rd k x u hx hu).flat (hu2 x (List.mem_of_getElem? hx))
  refine ⟨_, _, pl i, fun b => (pl i).ownBlock = some b, goInt els0.length, exec_copy ho h1 h2 h3 (by rw [g1]; exact hrun), .inl rfl, below_setRow k2 _, fun b hb hf => setRow_other w g _ b fun e => hf _ hl (e ▸ hFg), fun ep0 ob0 h0 => ?_, fun h0 => (by rw [hl] at h0; cases h0), fun b hb => .inr (.inl ⟨_, hl, hp.top b hb⟩), fun lk' pl' Fr' gg _ _ _ => ⟨?_, ?_⟩⟩
  · rw [hl] at h0; cases h0; exact .inr ⟨rfl, rfl, rfl, rfl⟩
  · cases d0 with
    | true => exact .inl ⟨rfl, .lst us (fun _ _ => False) hown huni (fun _ => hu2) hll (fun k x u hx hu => .flat (hu2 x (List.mem_of_getElem? hx)) ((hrd k x u hx hu).flat (hu2 x (List.mem_of_getElem? hx))) fun _ h => h) (fun _ _ _ _ h => h.elim) (fun _ _ h => h.elim) fun b => ⟨fun h => .inl h, fun h => h.elim id fun ⟨_, h⟩ => h.elim⟩⟩
    | false => exact .inr ⟨rfl, us, hown, huni, fun _ => hu2, hll, fun k x u hx hu => (hrd k x u hx hu).flat (hu2 x (List.mem_of_getElem? hx)), fun b => Iff.rfl⟩
  · rw [hn0]
    exact Rd.int (wf_len q3)
/-- Out of a part of another row. -/
theorem OpS.copy_view {s x : Operand} {c : Call} {t xt e e' es eb i ep n j ej k0 e2 : Nat} {y ye : Ty} {els0 els els2 : List (List T)} {d0 d : Bool} (ho : o.op = .call c) (h1 : c.callee = .builtin .copy) (h2 : c.args = #[s, x]) (h3 : c.argTypes = #[t, xt])
    (hy : tinfo P t = some y) (hk : y.k = .slice e es eb) (hye : tinfo P e = some ye) (hs : st.ev s = .hnd i ep) (hl : look st.objs i = some (ep, .row true d0 e' els0)) (he : e' = e)
    (hx : st.ev x = .view j ej k0 n) (hlx : look st.objs j = some (ej, .row true d e2 els)) (he2 : e2 = e) (hjn : k0 + n ≤ els.length) (hn0 : els0.length = n) (hpos : 0 < n) (hels : (els.drop k0).take n = els2)
    (hK : KE (.t (.int .i64 n)) [(i, ep, .row true d0 e els2)]) : OpS P B W o st KE := by
  have hes : P.cellsOf e = es := (slice_t hy hk).2.1
  subst hels he2
  have hln : (((els.drop k0).take n)).length = n := by rw [List.length_take, List.length_drop]; omega
  have hsrc : ∀ a w pl F, SimW P B W st a w pl F → SrcOk P B W st a w F x es ((els.drop k0).take n) [] true := fun a w pl F h => by rw [← hes]; exact h.src_view hx hlx (.inl rfl) hjn
  have huni : ∀ a w pl F, SimW P B W st a w pl F → (∀ y ∈ ((els.drop k0).take n), y.length = es) ∧ (∀ y ∈ (((els.drop k0).take n)).flatten, y.flat = true) := fun a w pl F h => by rw [← hes]; exact ⟨fun x hx => (uni_hnd h hlx).1 x (cut_mem hx), fun x hx => (uni_hnd h hlx).2 rfl x (cut_flat hx)⟩
  exact OpS.copy_flat ho h1 h2 h3 hy hk hye hs hl he hsrc huni hln hn0 hpos hK
end
end Go.Proofs.Ytmkpgcahmbancaa.Ab
