/- What is proved: the calculus of abstract states: conversions, stores into rows.
   Conditions: none beyond those that each lemma names. -/
import Derived.Test.YtmkpgcahmbancaaAbsA
import Derived.Laws.IdiomStrings
namespace Go.Proofs.Ytmkpgcahmbancaa.Ab
set_option linter.unusedSimpArgs false
set_option linter.unusedVariables false
open Go.RowKit

theorem notT {b : Bool} (h : b = false) : (!b) = true := by rw [h]; rfl
theorem notF {b : Bool} (h : b = true) : (!b) = false := by rw [h]; rfl
/-! ### Conversions -/
section
variable {P : Program} {B : Nat → Prop} {W : En} {o : Oper} {os : List Nat} {st : St} {KE : V → List (Nat × Nat × Ob) → Prop}
theorem OpQ.s (h : OpQ P B W o [] st KE) : OpS P B W o st KE := by
  obtain ⟨v, hK, h⟩ := h
  exact OpS.pure_ hK fun a w pl F hs => by
    obtain ⟨u, h1, h2⟩ := h a w pl F hs
    exact ⟨u, h1 w fun _ _ => rfl, h2⟩
/-- The bytes of a string, as a row's elements. -/
def bytesE (s : List UInt8) : List (List T) := s.map fun c => [.int .u8 (c.toNat : Nat)]
/-- What bytes stand in a row's elements. -/
def byteOf : List T → UInt8
  | [.int _ n] => UInt8.ofNat n.toNat
  | _ => 0
def isByte : List T → Bool
  | [.int k _] => (match k with | .u8 => true | _ => false)
  | _ => false
/-! ### Stores into rows -/
theorem setRange_get {α : Type} (cs vs : List α) (off k : Nat) (h : off + vs.length ≤ cs.length) : (setRange cs off vs)[k]? = if off ≤ k ∧ k < off + vs.length then vs[k - off]? else cs[k]? := by
  unfold setRange
  by_cases h1 : k < off
  · rw [if_neg (by omega), List.getElem?_append_left (by simp; omega), List.getElem?_append_left (by simp; omega), List.getElem?_take, if_pos h1]
  · by_cases h2 : k < off + vs.length
    · rw [if_pos ⟨by omega, h2⟩, List.getElem?_append_left (by simp; omega), List.getElem?_append_right (by simp; omega)]
      congr 1
      simp; omega
    · rw [if_neg (by omega), List.getElem?_append_right (by simp; omega), List.getElem?_drop]
      congr 1
      simp; omega
theorem setRange_len {α : Type} (cs vs : List α) (off : Nat) (h : off + vs.length ≤ cs.length) : (setRange cs off vs).length = cs.length := by
  unfold setRange; simp; omega
theorem setRange_take {α : Type} (cs vs : List α) (off n : Nat) (h : off + vs.length ≤ n) (hn : n ≤ cs.length) : (setRange cs off vs).take n = setRange (cs.take n) off vs := by
  apply List.ext_getElem?
  intro k
  rw [setRange_get _ _ _ _ (by simp; omega), List.getElem?_take, setRange_get _ _ _ _ (by omega), List.getElem?_take]
  by_cases hk : k < n
  · simp [hk]
  · rw [if_neg hk, if_neg hk, if_neg (by omega)]
theorem flatten_set {α : Type} {s : Nat} : ∀ {els : List (List α)} (_ : ∀ x ∈ els, x.length = s) {n : Nat} (_ : n < els.length) {off : Nat} {ts : List α} (_ : off + ts.length ≤ s), (els.set n (setRange (els.getD n []) off ts)).flatten = setRange els.flatten (n * s + off) ts
  | [], _, n, hn, _, _, _ => by simp at hn
  | x :: els, hu, 0, _, off, ts, ho => by
    have hx := hu x (by simp)
    simp only [List.set_cons_zero, List.flatten_cons, List.getD_cons_zero, Nat.zero_mul, Nat.zero_add]
    unfold setRange
    rw [List.take_append_of_le_length (by omega), List.drop_append_of_le_length (by omega), List.append_assoc (x.take off ++ ts)]
  | x :: els, hu, n + 1, hn, off, ts, ho => by
    have hx := hu x (by simp)
    have ih := flatten_set (els := els) (fun y hy => hu y (by simp [hy])) (n := n) (by simpa using hn) ho
    simp only [List.set_cons_succ, List.flatten_cons, List.getD_cons_succ]
    rw [ih]
    unfold setRange
    have e1 : (n + 1) * s + off = x.length + (n * s + off) := by rw [Nat.add_mul, hx]; omega
    rw [e1, List.take_length_add_append, Nat.add_assoc x.length, List.drop_length_add_append]
    simp
def flatT : List V → Option (List T)
  | [] => some []
  | .t x :: r => match x.flat with | true => (match flatT r with | some ts => some (x :: ts) | none => none) | false => none
  | _ => none
theorem getD_map {α : Type} [Inhabited α] {f : α → List T} {xs : List α} {m : Nat} (h : m < xs.length) : (xs.map f).getD m [] = f (xs.getD m default) := by simp [h]
theorem flatT_eq : ∀ {vs : List V} {ts : List T}, flatT vs = some ts → vs = ts.map .t ∧ ∀ x ∈ ts, x.flat = true
  | [], ts, h => by cases h; exact ⟨rfl, fun _ h => by cases h⟩
  | v :: r, ts, h => by
    cases v with
    | t x =>
      simp only [flatT] at h
      split at h
      · rename_i hf
        split at h
        · rename_i ts' hr
          cases h
          obtain ⟨h1, h2⟩ := flatT_eq hr
          refine ⟨by rw [h1]; rfl, fun y hy => ?_⟩
          rcases List.mem_cons.1 hy with rfl | hy
          · exact hf
          · exact h2 y hy
        · cases h
      · cases h
    | _ => cases h
theorem setRange_drop {α : Type} (cs : List α) (b q : Nat) (vs : List α) (h : b + q ≤ cs.length) : (setRange cs (b + q) vs).drop b = setRange (cs.drop b) q vs := by
  unfold setRange
  rw [List.append_assoc, List.drop_append_of_le_length (by rw [List.length_take]; omega), List.drop_take, Nat.add_sub_cancel_left, List.drop_drop, Nat.add_assoc, List.append_assoc]
theorem OpS.store_elem {ty : TypeId} {x z : Operand} {i ep n off : Nat} {fl d : Bool} {e : TypeId} {els : List (List T)} {y : Ty} {v : V} {ts cs : List T} (ho : o.op = .store ty x z) (hx : st.ev x = .ptr i ep n off) (hl : look st.objs i = some (ep, .row fl d e els)) (hy : tinfo P ty = some y)
    (hz : st.ev z = v) (hs : (cellsV v).all V.sto = true) (hts : flatT (cellsV v) = some ts) (hn : (cellsV v).length = y.size) (hlt : n < els.length) (hc : els.getD n [] = cs) {ye : Ty} (hye : tinfo P e = some ye) (hle : Nat.ble (off + ts.length) ye.size = true) (hpos : Nat.beq y.size 0 = false) (hK : KE (.lit undef) [(i, ep, .row fl d e (els.set n (setRange cs off ts)))]) : OpS P B W o st KE := by
  subst hz hc
  have hle : off + ts.length ≤ P.cellsOf e := by rw [cellsOf_t hye]; exact Nat.le_of_ble_eq_true hle
  have hpos : y.size ≠ 0 := Nat.ne_of_beq_eq_false hpos
  obtain ⟨hv, hf⟩ := flatT_eq hts
  refine OpS.chg (ks := []) hK (fun x e h => by cases h) fun a w pl F h => ?_
  have h1 := h.ev x
  rw [hx] at h1
  obtain ⟨_, ep', ob, h2, h3, h4⟩ : C0 P w (look st.objs) pl (Free B W.o (look st.objs) F w) (.ptr i ep n off) (a.eval x) := h1
  rw [hl] at h2
  cases h2
  obtain ⟨g, bb, hg, hu⟩ := h4 rfl
  have hob := h.objs i _ _ hl
  obtain ⟨us0, hp⟩ := row_parts hob
  have huni := hp.uni
  have hnL : n * P.cellsOf e + P.cellsOf e ≤ els.length * P.cellsOf e := by rw [← Nat.succ_mul]; exact Nat.mul_le_mul_right _ hlt
  obtain ⟨vs, hv1, hv2, hv3⟩ := ((h.ev z).c1 hs).cells hs
  have hlen : vs.length = ts.length := by rw [hv2.1, hv, List.length_map]
  have htl : ts.length = y.size := by rw [← hn, hv, List.length_map]
  have hvr : ∀ (k : Nat) (x : T) (u : Value), ts[k]? = some x → vs[k]? = some u → Rd P w (fun _ => False) x u := fun k x u hx hu => by
    have := hv2.2 k (.t x) u (by rw [hv, List.getElem?_map, hx]; rfl) hu
    exact Rd.flat this (hf x (List.mem_of_getElem? hx))
  -- the row's block
  have key : ∀ us, OwnsR w e (P.cellsOf e) (pl i) els.length us → ∃ cap cur fz, pl i = .slice (some ⟨g, bb, none⟩) els.length cap ∧ w.heap[g]? = some (.cells cur e fz) ∧ (fz = (0, 0) ∨ cur.size ≤ fz.1) ∧ els.length ≤ cap ∧ cap ≤ maxLen ∧ bb + cap * P.cellsOf e ≤ cur.size ∧ (cur.toList.drop bb).take (els.length * P.cellsOf e) = us := fun us ho => by
    rcases ho.2 with ⟨_, h0⟩ | ⟨g', off', cap, cur, fz, e1, rest⟩
    · omega
    · rw [e1] at hg
      simp only [blk, Option.some.injEq, Prod.mk.injEq] at hg
      obtain ⟨rfl, rfl⟩ := hg
      exact ⟨cap, cur, fz, e1, rest⟩
  obtain ⟨cap, cur, fz, k1, k3, k4, k5, k6, k7, k8⟩ := key us0 hp.own
  have hcap : bb + els.length * P.cellsOf e ≤ cur.size := Nat.le_trans (Nat.add_le_add_left (Nat.mul_le_mul_right _ k5) _) k7
  have hrun := run_storeCells_g P g (bb + (n * P.cellsOf e + off)) e fz vs 0 cur w k3 k4 (by omega) hv3
  have hcur : (cur.toList.take (bb + (n * P.cellsOf e + off) + 0) ++ vs ++ cur.toList.drop (bb + (n * P.cellsOf e + off) + 0 + vs.length)) = setRange cur.toList (bb + (n * P.cellsOf e + off)) vs := rfl
  rw [hcur] at hrun
  have htop : (pl i).ownBlock = some g := by rw [k1]; rfl
  have hFg : F i g := hp.top g htop
  have k2 : W.o g := (h.range i _ g hl hFg).1
  have hown : ∀ us, OwnsR w e (P.cellsOf e) (pl i) els.length us → OwnsR (w.setRow g (setRange cur.toList (bb + (n * P.cellsOf e + off)) vs).toArray) e (P.cellsOf e) (pl i) (els.set n (setRange (els.getD n []) off ts)).length (setRange us (n * P.cellsOf e + off) vs) := fun us ho => by
    rw [List.length_set]
    have hus : us = us0 := ho.uniq hp.own
    subst hus
    refine ⟨by rw [setRange_len _ _ _ (by rw [ho.1]; omega)]; exact ho.1, .inr ⟨g, bb, cap, _, fz, k1, setRow_heap w g cur _ e fz k3, ?_, k5, k6, ?_, ?_⟩⟩
    · rcases k4 with k4 | k4
      · exact .inl k4
      · exact .inr (by rw [List.size_toArray, setRange_len _ _ _ (by simp; omega)]; simpa using k4)
    · rw [List.size_toArray, setRange_len _ _ _ (by simp; omega)]; simpa using k7
    · rw [List.toList_toArray, setRange_drop _ _ _ _ (by simp; omega), setRange_take _ _ _ _ (by omega) (by simp; omega), k8]
  have huni' : ∀ x ∈ els.set n (setRange (els.getD n []) off ts), x.length = P.cellsOf e := fun x hx => by
    rcases List.mem_or_eq_of_mem_set hx with hx | rfl
    · exact huni x hx
    · have h0 := huni _ (getD_mem hlt)
      rw [setRange_len _ _ _ (by omega)]; exact h0
  have hfl' := flatten_set huni hlt hle
  have hL : els.flatten.length = els.length * P.cellsOf e := flatten_len huni
  have hflt : fl = true → ∀ x ∈ (els.set n (setRange (els.getD n []) off ts)).flatten, x.flat = true := fun hfl x hx => by
    rw [hfl'] at hx
    unfold setRange at hx
    rcases List.mem_append.1 hx with hx | hx
    · rcases List.mem_append.1 hx with hx | hx
      · exact hp.flt hfl x (List.mem_of_mem_take hx)
      · exact hf x hx
    · exact hp.flt hfl x (List.mem_of_mem_drop hx)
  have hmain : ∃ F' : Nat → Prop, (∀ b, F' b → F i b) ∧ ∀ (lk' : Nat → Option (Nat × Ob)) (pl' : Nat → Value) (Fr' : Nat → Prop), Goes P w (w.setRow g (setRange cur.toList (bb + (n * P.cellsOf e + off)) vs).toArray) (look st.objs) lk' pl pl' (Free B W.o (look st.objs) F w) Fr' →
      ObR P (w.setRow g (setRange cur.toList (bb + (n * P.cellsOf e + off)) vs).toArray) (C0 P (w.setRow g (setRange cur.toList (bb + (n * P.cellsOf e + off)) vs).toArray) lk' pl' Fr') (Rd P (w.setRow g (setRange cur.toList (bb + (n * P.cellsOf e + off)) vs).toArray) Fr') (pl i) F' (.row fl d e (els.set n (setRange (els.getD n []) off ts))) := by
    rcases hob with ⟨hd, hob⟩ | ⟨hd, us, h1, h2, h3, h4, h5, h6⟩
    · cases hob with
      | flat hf => cases hf
      | lst us fs h1 h2 h3 h4 h5 h6 h7 h8 =>
        have hul : us.length = els.length * P.cellsOf e := h1.1
        refine ⟨fun b => (pl i).ownBlock = some b ∨ ∃ k, fs k b ∧ ¬ (n * P.cellsOf e + off ≤ k ∧ k < n * P.cellsOf e + off + vs.length), fun b hb => (h8 b).2 (hb.imp id fun ⟨k, h, _⟩ => ⟨k, h⟩), fun lk' pl' Fr' gg => ?_⟩
        refine .inl ⟨hd, .lst (setRange us (n * P.cellsOf e + off) vs) (fun k b => fs k b ∧ ¬ (n * P.cellsOf e + off ≤ k ∧ k < n * P.cellsOf e + off + vs.length)) (hown us h1) huni' hflt (by rw [hfl', setRange_len _ _ _ (by omega), setRange_len _ _ _ (by omega)]; exact h4) (fun k x u hx hu => ?_) (fun k k' b hne hk hk' => h6 k k' b hne hk.1 hk'.1) (fun k b hk => h7 k b hk.1) fun b => Iff.rfl⟩
        rw [hfl', setRange_get _ _ _ _ (by omega)] at hx
        rw [setRange_get _ _ _ _ (by omega)] at hu
        by_cases hk : n * P.cellsOf e + off ≤ k ∧ k < n * P.cellsOf e + off + vs.length
        · rw [if_pos (by rw [← hlen]; exact hk)] at hx
          rw [if_pos hk] at hu
          exact .flat (hf x (List.mem_of_getElem? hx)) ((hvr _ x u hx hu).flat (hf x (List.mem_of_getElem? hx))) fun b hb => hb.2 hk
        · rw [if_neg (by rw [← hlen]; exact hk)] at hx
          rw [if_neg hk] at hu
          have e1 : (fun b => fs k b ∧ ¬ (n * P.cellsOf e + off ≤ k ∧ k < n * P.cellsOf e + off + vs.length)) = fs k := funext fun b => propext ⟨fun h => h.1, fun h => ⟨h, hk⟩⟩
          show Ow P _ x u (fun b => fs k b ∧ ¬ (n * P.cellsOf e + off ≤ k ∧ k < n * P.cellsOf e + off + vs.length))
          rw [e1]
          refine (h5 k x u hx hu).keep fun b hb => setRow_other w g _ b fun e => ?_
          exact h7 k b hb (e ▸ htop)
    · have hul : us.length = els.length * P.cellsOf e := h1.1
      refine ⟨F i, fun _ h => h, fun lk' pl' Fr' gg => .inr ⟨hd, setRange us (n * P.cellsOf e + off) vs, hown us h1, huni', hflt, by rw [hfl', setRange_len _ _ _ (by omega), setRange_len _ _ _ (by omega)]; exact h4, fun k x u hx hu => ?_, h6⟩⟩
      rw [hfl', setRange_get _ _ _ _ (by omega)] at hx
      rw [setRange_get _ _ _ _ (by omega)] at hu
      by_cases hk : n * P.cellsOf e + off ≤ k ∧ k < n * P.cellsOf e + off + vs.length
      · rw [if_pos (by rw [← hlen]; exact hk)] at hx
        rw [if_pos hk] at hu
        exact (hvr _ x u hx hu).flat (hf x (List.mem_of_getElem? hx))
      · rw [if_neg (by rw [← hlen]; exact hk)] at hx
        rw [if_neg hk] at hu
        exact (h5 k x u hx hu).mono gg.more gg.heap
  obtain ⟨F', hF1, hF2⟩ := hmain
  refine ⟨_, _, pl i, F', undef, exec_store ho hy hu (by rw [hv1]; simp; omega) (by rw [hv1]; exact hrun), .inr ⟨rfl, rfl⟩, below_setRow k2 _, fun b hb hf => setRow_other w g _ b fun e => hf _ hl (e ▸ hFg), fun ep0 ob0 h0 => ?_, fun h0 => (by rw [hl] at h0; cases h0), fun b hb => .inr (.inl ⟨_, hl, hF1 b hb⟩), fun lk' pl' Fr' gg _ _ _ => ⟨hF2 lk' pl' Fr' gg, rfl⟩⟩
  rw [hl] at h0; cases h0; exact .inr ⟨rfl, rfl, rfl, rfl⟩
end
end Go.Proofs.Ytmkpgcahmbancaa.Ab
