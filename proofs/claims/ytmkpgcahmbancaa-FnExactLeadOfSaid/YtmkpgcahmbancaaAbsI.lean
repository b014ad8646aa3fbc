/- What is proved: the calculus of abstract states: slice literals and appends, ready for use.
   Conditions: none beyond those that each lemma names. -/
import Derived.Test.YtmkpgcahmbancaaAbsH
namespace Go.Proofs.Ytmkpgcahmbancaa.Ab
set_option linter.unusedSimpArgs false
set_option linter.unusedVariables false
open Go.RowKit
theorem beqAll {es : Nat} {els : List (List T)} (h : (els.all fun x => Nat.beq x.length es) = true) : ∀ x ∈ els, x.length = es := fun x hx => Nat.eq_of_beq_eq_true (List.all_eq_true.1 h x hx)
section
variable {P : Program} {B : Nat → Prop} {W : En} {o : Oper} {os : List Nat} {st : St} {KE : V → List (Nat × Nat × Ob) → Prop}
theorem OpS.lit {t : TypeId} {len : Nat} {parts : Array (Nat × Operand)} {xs : List Operand} {y ye : Ty} {e es eb site ep : Nat} {zs : List V} {ts : List T} {ks : List (Nat × Nat)} {d0 d fl : Bool} {els : List (List T)} {kl : List (Nat × Nat × Ob)}
    (ho : o.op = .buildSlice t len parts) (hd : o.dst = some site) (hparts : parts.toList = (xs.zipIdx 0).map fun p => (p.2, p.1)) (hlen : xs.length = len) (hy : tinfo P t = some y) (hk : y.k = .slice e es eb) (hye : tinfo P e = some ye) (hz : ye.zero = some zs) (hzl : zs.length = es) (hes : Nat.blt 0 es = true) (hsm : Nat.ble (len * es) 16777216 = true)
    (hsto : (xs.map st.ev).all (fun v => (cellsV v).all V.sto && Nat.beq (cellsV v).length es) = true) (hcv : cvt (look st.objs) ((xs.map st.ev).flatMap cellsV) = some (ts, ks, d0)) (hd0 : d0 = d) (hnd : nodupB (ks.map (·.1)) = true) (hks : (ks.all fun p => !Nat.beq p.1 site) = true)
    (hel : els.flatten = ts) (hell : els.length = len) (hu : (els.all fun x => Nat.beq x.length es) = true) (hfl : ts.all T.flat = fl) (hep : nep (look st.objs site) = ep) (hkl : kills ks = kl) (hK : KE (.hnd site ep) ((site, ep, .row fl d e els) :: kl)) : OpS P B W o st KE := by
  subst hd0 hkl
  refine OpS.buildSlice ho hd hparts hlen hy hk hye hz hzl (Nat.le_of_ble_eq_true hes) (Nat.le_of_ble_eq_true hsm) rfl ?_ hcv (nodupB_ok hnd) (fun x e hx hs => ?_) hel hell (beqAll hu) hfl hep hK
  · rw [List.all_eq_true] at hsto ⊢
    intro v hv
    have := hsto v hv
    rw [Bool.and_eq_true] at this ⊢
    exact ⟨this.1, decide_eq_true (Nat.eq_of_beq_eq_true this.2)⟩
  · have := List.all_eq_true.1 hks _ hx
    subst hs
    simp at this
/-! ### Orders, by what has been done -/
theorem aA.cut {os : List Nat} {ops : Array Oper} {n0 n : Nat} {ls0 ls : Array Bool} {K : St → Prop} {st0 s : St} (rest : aA P B W ops os n ls K s → aA P B W ops os n0 ls0 K st0) (main : aA P B W ops os n ls K s) : aA P B W ops os n0 ls0 K st0 := rest main
theorem aA.to {os : List Nat} {ops : Array Oper} {n n' : Nat} {ls ls' : Array Bool} {K : St → Prop} {s : St} (hl : ls = ls') (hn : n = n') (h : aA P B W ops os n' ls' K s) : aA P B W ops os n ls K s := by subst hl hn; exact h
theorem aA.weak {os : List Nat} {ops : Array Oper} {n : Nat} {ls : Array Bool} {K : St → Prop} {s s' : St} (h : aA P B W ops os n ls K s') (hl : Le s s') : aA P B W ops os n ls K s := fun w0 X a w pl F hs hX => by
  obtain hs' := hs.weak hl
  refine h w0 X a w pl F hs' fun b hb => ?_
  obtain ⟨h1, h2⟩ := hX b hb
  refine ⟨?_, h2⟩
  rcases h1 with h1 | ⟨i, hi, x, hx, hf⟩
  · exact .inl ⟨h1.1, h1.2.1, fun o x ho => h1.2.2 o x (hl.objs o x ho)⟩
  · cases hy : look s'.objs i with
    | some y => exact .inr ⟨i, hi, y, hy, hf⟩
    | none =>
      have hr := hs.range i x b hx hf
      refine .inl ⟨.inr hr.1, hr.2, fun o z hz hfz => ?_⟩
      have hne : i ≠ o := fun e => by rw [e, hz] at hy; cases hy
      exact hs.apart i o x z b hne hx (hl.objs o z hz) hf hfz
end
end Go.Proofs.Ytmkpgcahmbancaa.Ab
