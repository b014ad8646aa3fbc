/- What is proved: the calculus of abstract states: slice expressions, views of rows, the smaller and the greater of two numbers.
   Conditions: none beyond those that each lemma names. -/
import Derived.Test.YtmkpgcahmbancaaAbsF
import Derived.Laws.Slices
namespace Go.Proofs.Ytmkpgcahmbancaa.Ab
set_option linter.unusedSimpArgs false
set_option linter.unusedVariables false
open Go.RowKit

section
variable {P : Program} {B : Nat → Prop} {W : En} {o : Oper} {os : List Nat} {st : St} {KE : V → List (Nat × Nat × Ob) → Prop}
/-- A bound of a slice expression. -/
def bnd (st : St) (x : Option Operand) (dflt : Int) : Option Int :=
  match x with
  | none => some dflt
  | some x => match st.ev x with | .t (.int _ n) => some n | _ => none
theorem SimW.bnd {a : Act} {w : World} {pl : Nat → Value} {F : Nat → Nat → Prop} (h : SimW P B W st a w pl F) {x : Option Operand} {d n : Int} (hb : bnd st x d = some n) : (x = none ∧ n = d) ∨ ∃ k, x.map a.eval = some (.int k n) := by
  cases x with
  | none => cases hb; exact .inl ⟨rfl, rfl⟩
  | some x =>
    simp only [Ab.bnd] at hb
    split at hb
    · rename_i k m hx
      cases hb
      exact .inr ⟨k, by rw [Option.map_some, (h.int_at hx).1]⟩
    · cases hb
theorem run_bounds {w : World} {isS : Bool} {len cap : Nat} {lo hi : Option Value} {l h : Int} (hl : (lo = none ∧ l = 0) ∨ ∃ k, lo = some (.int k l)) (hh : (hi = none ∧ h = len) ∨ ∃ k, hi = some (.int k h)) (h0 : 0 ≤ l) (h1 : l ≤ h) (h2 : h ≤ cap) :
    (Instr.sliceBounds isS len cap lo hi none).run P w = .ok (l.toNat, h.toNat, cap) w := by
  have eh : (h.toNat : Int) = h := Int.toNat_of_nonneg (by omega)
  have b1 : ∀ (k : IntKind) (code : BoundsCode), (Instr.sliceBound (.int k h) cap code).run P w = .ok h.toNat w := fun k code => run_sliceBound w k h cap code (by omega) h2
  have b2 : ∀ (k : IntKind) (code : BoundsCode), (Instr.sliceBound (.int k l) h.toNat code).run P w = .ok l.toNat w := fun k code => run_sliceBound w k l h.toNat code h0 (by omega)
  have b3 : ∀ (k : IntKind) (code : BoundsCode), (Instr.sliceBound (.int k l) len code).run P w = .ok l.toNat w ∨ ¬ h = len := fun k code => by
    by_cases e : h = len
    · exact .inl (run_sliceBound w k l len code h0 (by omega))
    · exact .inr e
  rcases hl with ⟨rfl, rfl⟩ | ⟨kl, rfl⟩ <;> rcases hh with ⟨rfl, rfl⟩ | ⟨kh, rfl⟩
  · simp [Instr.sliceBounds]
  · cases isS <;> simp [Instr.sliceBounds, b1]
  · have b4 : ∀ (code : BoundsCode), (Instr.sliceBound (.int kl l) len code).run P w = .ok l.toNat w := fun code => (b3 kl code).resolve_right (by simp)
    simp [Instr.sliceBounds, b4]
  · cases isS <;> simp [Instr.sliceBounds, b1, b2]
theorem exec_slice {t : TypeId} {x : Operand} {lo hi : Option Operand} {a : Act} {w : World} {pl : Nat → Value} {F : Nat → Nat → Prop} (h : SimW P B W st a w pl F) {e es eb : Nat} {y : Ty} (ho : o.op = .slice t x lo hi none) (hy : tinfo P t = some y) (hk : y.k = .slice e es eb) (hes : es ≠ 0) {A : Option Addr} {n c : Nat} (hx : a.eval x = .slice A n c) {l hh : Int} (hl : bnd st lo 0 = some l) (hh' : bnd st hi n = some hh)
    (h0 : 0 ≤ l) (h1 : l ≤ hh) (h2 : hh ≤ c) (w' : World) : (execOp a.eval o).run P w' = .ok (.value (sliced A l.toNat hh.toNat c es)) w' := by
  obtain ⟨g1, g2, g3⟩ := slice_t hy hk
  have hel : P.elem t = e := by simp [Program.elem, g1]
  have ht : P.underlying t = some (.slice (P.elem t)) := by rw [hel]; exact g1
  have hsz : (sizeOf (P.elem t)).run P w' = .ok es w' := by
    rw [hel]
    subst g2
    unfold Program.cellsOf at hes ⊢
    unfold sizeOf typeInfo
    cases hi : P.info? e with
    | none => rw [hi] at hes; exact absurd rfl hes
    | some i => simp [hi]
  unfold execOp
  rw [ho]
  refine exec_value ?_
  have hb := run_bounds (P := P) (w := w') (isS := true) (len := n) (cap := c) (lo := lo.map a.eval) (hi := hi.map a.eval) ((h.bnd hl).imp (fun q => ⟨by rw [q.1]; rfl, q.2⟩) id) ((h.bnd hh').imp (fun q => ⟨by rw [q.1]; rfl, q.2⟩) id) h0 h1 h2
  rw [hx, run_sliceAt_slice w' t _ _ _ _ ht]
  show (Instr.slice t (.slice A n c) (lo.map a.eval) (hi.map a.eval) none).run P w' = _
  rw [run_slice_any w' t A n c ht, hb, Result.andThen_ok, hsz, Result.andThen_ok]
theorem sliced_eq (A : Option Addr) (l h c es : Nat) : sliced A l h c es = .slice (if c = l then A else A.map (·.add (l * es))) (h - l) (c - l) := rfl
theorem SimW.view_at {a : Act} {w : World} {pl : Nat → Value} {F : Nat → Nat → Prop} (h : SimW P B W st a w pl F) {x : Operand} {i ep j n : Nat} {fl d : Bool} {e : TypeId} {els : List (List T)} (hx : st.ev x = .view i ep j n) (hl : look st.objs i = some (ep, .row fl d e els)) :
    ∃ A c us, a.eval x = .slice A n c ∧ n ≤ c ∧ c ≤ maxLen ∧ RowP P w (Free B W.o (look st.objs) F w) (pl i) (F i) fl d e els us ∧ (0 < n → ∃ g b, blk (pl i) = some (g, b) ∧ (pl i).ownBlock = some g ∧ A = some ⟨g, b + j * P.cellsOf e, none⟩) := by
  have h1 := h.ev x
  rw [hx] at h1
  obtain ⟨_, ep', ob, h2, h3, h4⟩ : C0 P w (look st.objs) pl (Free B W.o (look st.objs) F w) (.view i ep j n) (a.eval x) := h1
  rw [hl] at h2
  cases h2
  obtain ⟨_, A, c, hu, hc1, hc2, hA⟩ := h4 rfl
  obtain ⟨us, hp⟩ := row_parts (h.objs i _ _ hl)
  refine ⟨A, c, us, hu, hc1, hc2, hp, fun hn => ?_⟩
  obtain ⟨g, b, h5, h6⟩ := hA hn
  refine ⟨g, b, h5, ?_, h6⟩
  obtain ⟨A', c', h7, _⟩ := hp.slice
  rw [h7] at h5 ⊢
  cases A' with
  | none => cases h5
  | some ad =>
    obtain ⟨gg, oo, pp⟩ := ad
    cases pp with
    | none => cases h5; rfl
    | some => cases h5
theorem OpQ.len_view {x : Operand} {t : TypeId} {c : Call} {i ep j n : Nat} {fl d : Bool} {e' : Nat} {els : List (List T)} {e es eb : Nat} {y : Ty} (ho : o.op = .call c) (h1 : c.callee = .builtin .len) (h2 : c.args = #[x]) (h3 : c.argTypes = #[t]) (hy : tinfo P t = some y) (hk : y.k = .slice e es eb) (hx : st.ev x = .view i ep j n) (hl : look st.objs i = some (ep, .row fl d e' els)) (hK : KE (.t (.int .i64 n)) []) : OpQ P B W o os st KE :=
  OpQ.pure_ hK fun a w pl F hs => by
    obtain ⟨A, cc, us, g1, g2, g3, hp, g4⟩ := hs.view_at hx hl
    exact ⟨_, fun _ => exec_len ho h1 h2 h3 hy hk g1, Rd.int (wf_len (Nat.le_trans g2 g3))⟩
theorem OpQ.index_view {t : TypeId} {x ix : Operand} {i ep j m : Nat} {fl d : Bool} {els : List (List T)} {n : Int} {k : IntKind} {e es eb e' q : Nat} {y : Ty} (ho : o.op = .indexAddr t x ix) (hx : st.ev x = .view i ep j m) (hl : look st.objs i = some (ep, .row fl d e' els)) (hi : st.ev ix = .t (.int k n)) (hy : tinfo P t = some y) (hk : y.k = .slice e es eb) (hes : es ≠ 0) (he : e' = e)
    (hn : n = (q : Int)) (hlt : q < m) (hK : KE (.ptr i ep (j + q) 0) []) : OpQ P B W o os st KE :=
  OpQ.pure_ hK fun a w pl F hs => by
    subst he hn
    obtain ⟨A, c, us, g1, g2, g3, hp, g4⟩ := hs.view_at hx hl
    have hes' : P.cellsOf e' = es := (slice_t hy hk).2.1
    obtain ⟨g, b, g5, _, rfl⟩ := g4 (by omega)
    refine ⟨_, fun _ => exec_indexAddr ho hy hk hes g1 (hs.int_at hi).1 (by omega), rfl, _, _, hl, Nat.le_refl _, fun _ => ⟨g, b, g5, ?_⟩⟩
    rw [add_lit0, Int.toNat_natCast, ← hes']
    simp [esz, Nat.add_mul, Nat.add_assoc]
theorem OpS.len_view {x : Operand} {t : TypeId} {c : Call} {i ep j n : Nat} {fl d : Bool} {e' : Nat} {els : List (List T)} {e es eb : Nat} {y : Ty} (ho : o.op = .call c) (h1 : c.callee = .builtin .len) (h2 : c.args = #[x]) (h3 : c.argTypes = #[t]) (hy : tinfo P t = some y) (hk : y.k = .slice e es eb) (hx : st.ev x = .view i ep j n) (hl : look st.objs i = some (ep, .row fl d e' els)) (hK : KE (.t (.int .i64 n)) []) : OpS P B W o st KE := (OpQ.len_view ho h1 h2 h3 hy hk hx hl hK).s
theorem OpS.index_view {t : TypeId} {x ix : Operand} {i ep j m : Nat} {fl d : Bool} {els : List (List T)} {n : Int} {k : IntKind} {e es eb e' q : Nat} {y : Ty} (ho : o.op = .indexAddr t x ix) (hx : st.ev x = .view i ep j m) (hl : look st.objs i = some (ep, .row fl d e' els)) (hi : st.ev ix = .t (.int k n)) (hy : tinfo P t = some y) (hk : y.k = .slice e es eb) (hes : es ≠ 0) (he : e' = e)
    (hn : n = (q : Int)) (hlt : q < m) (hK : KE (.ptr i ep (j + q) 0) []) : OpS P B W o st KE := (OpQ.index_view ho hx hl hi hy hk hes he hn hlt hK).s
/-! ### A row is cut -/
theorem OwnsR.cut {w : World} {e : TypeId} {es : Nat} {v : Value} {n c : Nat} {A : Option Addr} {us : List Value} (h : OwnsR w e es v n us) (hv : v = .slice A n c) {l hi : Nat} (h1 : l ≤ hi) (h2 : hi ≤ n) :
    OwnsR w e es (sliced A l hi c es) (hi - l) ((us.drop (l * es)).take ((hi - l) * es)) ∧ (sliced A l hi c es).ownBlock = v.ownBlock := by
  have hlen : ((us.drop (l * es)).take ((hi - l) * es)).length = (hi - l) * es := by
    rw [List.length_take, List.length_drop, h.1]
    have : hi * es ≤ n * es := Nat.mul_le_mul_right _ h2
    rw [Nat.sub_mul]
    omega
  rw [sliced_eq]
  rcases h.2 with ⟨hn, h0⟩ | ⟨g, off, cap, cur, fz, hv', hg, hfz, hnc, hcm, hcs, ht⟩
  · rw [hn] at hv
    cases hv
    have : l = 0 := by omega
    have : hi = 0 := by omega
    subst_vars
    exact ⟨⟨hlen, .inl ⟨by simp, by simp⟩⟩, by simp [Value.ownBlock]⟩
  · rw [hv'] at hv
    cases hv
    by_cases hcl : c = l
    · rw [if_pos hcl]
      refine ⟨⟨hlen, .inr ⟨g, off, c - l, cur, fz, rfl, hg, hfz, by omega, by omega, ?_, ?_⟩⟩, by rw [hv']; rfl⟩
      · have : c - l = 0 := by omega
        rw [this, Nat.zero_mul]
        omega
      · have : hi - l = 0 := by omega
        rw [this]; simp
    · rw [if_neg hcl]
      refine ⟨⟨hlen, .inr ⟨g, off + l * es, c - l, cur, fz, ?_, hg, hfz, by omega, by omega, ?_, ?_⟩⟩, by rw [hv']; show (Value.slice (some ((⟨g, off, none⟩ : Addr).add (l * es))) (hi - l) (c - l)).ownBlock = _; rw [add_lit0]; rfl⟩
      · show Value.slice (some ((⟨g, off, none⟩ : Addr).add (l * es))) (hi - l) (c - l) = _
        rw [add_lit0]
      · have h3 : l * es + (c - l) * es = c * es := by rw [← Nat.add_mul]; congr 1; omega
        omega
      · rw [← ht, List.drop_take, List.take_take, List.drop_drop]
        congr 1
        have : hi * es ≤ n * es := Nat.mul_le_mul_right _ h2
        rw [Nat.sub_mul, Nat.min_eq_left]
        omega
/-- A part of an object's row takes the row's place. -/
theorem OpS.cut {t : TypeId} {x : Operand} {lo hi : Option Operand} {i ep : Nat} {fl d : Bool} {e es eb e' : Nat} {els : List (List T)} {y : Ty} {l h : Int} (ho : o.op = .slice t x lo hi none) (hx : st.ev x = .hnd i ep) (hlk : look st.objs i = some (ep, .row fl d e' els)) (hy : tinfo P t = some y) (hk : y.k = .slice e es eb) (hes : es ≠ 0) (he : e' = e)
    {n : Nat} (hn0 : els.length = n) (hl : bnd st lo 0 = some l) (hh : bnd st hi n = some h) (h0 : 0 ≤ l ∧ l ≤ h ∧ h ≤ n) {els2 : List (List T)} (h2 : (els.drop l.toNat).take (h.toNat - l.toNat) = els2) (hK : KE (.hnd i (ep + 1)) [(i, ep + 1, .row fl d e' els2)]) : OpS P B W o st KE := by
  subst he hn0 h2
  refine OpS.chg (ks := []) (i := i) (ep := ep + 1) hK (fun x e h => by cases h) fun a w pl F hs => ?_
  obtain ⟨g1, us0, hp⟩ := hs.hnd_at hx hlk
  obtain ⟨A, c, g2, g3, g4, g5⟩ := hp.slice
  have hes' : P.cellsOf e' = es := (slice_t hy hk).2.1
  have hrun := exec_slice hs ho hy hk hes (g1.trans g2) hl hh h0.1 h0.2.1 (by omega) w
  generalize hln : l.toNat = ln at *
  generalize hhn : h.toNat = hn at *
  have b1 : ln ≤ hn := by omega
  have b2 : hn ≤ els.length := by omega
  have hcu := hp.own
  rw [hes'] at hcu
  obtain ⟨o1, o2⟩ := OwnsR.cut hcu g2 b1 b2
  have hnl : ((els.drop ln).take (hn - ln)).length = hn - ln := by rw [List.length_take, List.length_drop]; omega
  have hcut := flatten_cut hp.uni ln (hn - ln)
  have hsub : ∀ (k : Nat) (x : T), ((els.drop ln).take (hn - ln)).flatten[k]? = some x → els.flatten[ln * P.cellsOf e' + k]? = some x := fun k x hx => by
    rw [hcut, List.getElem?_take] at hx
    split at hx
    · rw [List.getElem?_drop] at hx; exact hx
    · cases hx
  have hsubu : ∀ (k : Nat) (u : Value), ((us0.drop (ln * es)).take ((hn - ln) * es))[k]? = some u → us0[ln * P.cellsOf e' + k]? = some u := fun k u hx => by
    rw [List.getElem?_take] at hx
    split at hx
    · rw [List.getElem?_drop] at hx; rw [hes']; exact hx
    · cases hx
  have huni : ∀ x ∈ (els.drop ln).take (hn - ln), x.length = P.cellsOf e' := fun x hx => hp.uni x (List.mem_of_mem_drop (List.mem_of_mem_take hx))
  have hflt : fl = true → ∀ x ∈ ((els.drop ln).take (hn - ln)).flatten, x.flat = true := fun hf x hx => by
    obtain ⟨k, hk, rfl⟩ := List.getElem_of_mem hx
    exact hp.flt hf _ (List.mem_of_getElem? (hsub k _ (List.getElem?_eq_getElem hk)))
  have hlen3 : ((els.drop ln).take (hn - ln)).flatten.length = ((us0.drop (ln * es)).take ((hn - ln) * es)).length := by
    rw [hcut, hes', List.length_take, List.length_drop, List.length_take, List.length_drop, hp.len]
  have hown : OwnsR w e' (P.cellsOf e') (sliced A ln hn c es) ((els.drop ln).take (hn - ln)).length ((us0.drop (ln * es)).take ((hn - ln) * es)) := by rw [hnl, hes']; exact o1
  have hone : (sliced A ln hn c es).oneCell' = true := rfl
  cases d with
  | false =>
    refine ⟨_, w, sliced A ln hn c es, fun b => (sliced A ln hn c es).ownBlock = some b, _, hrun, .inl rfl, Kp.refl _ _, fun _ _ _ => rfl, fun ep0 ob0 h0 => .inl (by rw [hlk] at h0; cases h0; omega), fun _ => Nat.succ_pos _, fun b hb => .inr (.inl ⟨_, hlk, hp.top b (by rw [← o2]; exact hb)⟩), fun lk' pl' Fr' gg _ e1 e2 => ⟨?_, hone, _, _, e1, Nat.le_refl _, fun _ => ⟨rfl, e2.symm⟩⟩⟩
    exact .inr ⟨rfl, _, hown, huni, hflt, hlen3, fun k x u hx hu => (hp.shr rfl _ x u (hsub k x hx) (hsubu k u hu)).mono gg.more gg.heap, fun b => Iff.rfl⟩
  | true =>
    rcases hs.objs i _ _ hlk with ⟨_, h5⟩ | ⟨h5, _⟩
    case inr => cases h5
    generalize hpl : pl i = vi at *
    cases h5 with
    | flat hf => cases hf
    | lst us1 fs s1 s2 s3 s4 s5 s6 s7 s8 =>
    have hus : us1 = us0 := s1.uniq hp.own
    subst hus
    refine ⟨_, w, sliced A ln hn c es, fun b => (sliced A ln hn c es).ownBlock = some b ∨ ∃ k, k < (hn - ln) * es ∧ fs (ln * es + k) b, _, hrun, .inl rfl, Kp.refl _ _, fun _ _ _ => rfl, fun ep0 ob0 h0 => .inl (by rw [hlk] at h0; cases h0; omega), fun _ => Nat.succ_pos _, fun b hb => .inr (.inl ⟨_, hlk, ?_⟩), fun lk' pl' Fr' gg _ e1 e2 => ⟨?_, hone, _, _, e1, Nat.le_refl _, fun _ => ⟨rfl, e2.symm⟩⟩⟩
    · rcases hb with hb | ⟨k, _, hb⟩
      · exact (s8 b).2 (.inl (by rw [← o2]; exact hb))
      · exact (s8 b).2 (.inr ⟨_, hb⟩)
    · refine .inl ⟨rfl, .lst _ (fun k b => k < (hn - ln) * es ∧ fs (ln * es + k) b) hown huni hflt hlen3 (fun k x u hx hu => ?_) (fun k k' b hne hk hk' => s6 _ _ b (by omega) hk.2 hk'.2) (fun k b hk hb => s7 _ b hk.2 (by rw [← o2]; exact hb)) fun b => Iff.rfl⟩
      have hkl : k < (hn - ln) * es := by
        have := (List.getElem?_eq_some_iff.1 hu).1
        rw [o1.1] at this
        exact this
      have e3 : (fun b => k < (hn - ln) * es ∧ fs (ln * es + k) b) = fs (ln * es + k) := funext fun b => propext ⟨fun h => h.2, fun h => ⟨hkl, h⟩⟩
      show Ow P w x u (fun b => k < (hn - ln) * es ∧ fs (ln * es + k) b)
      rw [e3]
      have := s5 _ x u (hsub k x hx) (hsubu k u hu)
      rw [hes'] at this
      exact this

/-! ### The smaller, the greater -/
theorem OpQ.min2 {c : Call} {x y : Operand} {k : IntKind} {m n : Int} (ho : o.op = .call c) (h1 : c.callee = .builtin .min) (h2 : c.args = #[x, y]) (hx : st.ev x = .t (.int k m)) (hy : st.ev y = .t (.int k n)) (hK : KE (.t (.int k (if n < m then n else m))) []) : OpQ P B W o os st KE :=
  OpQ.pure_ hK fun a w pl F hs => by
    obtain ⟨g1, g2⟩ := hs.int_at hx
    obtain ⟨g3, g4⟩ := hs.int_at hy
    refine ⟨.int k (if n < m then n else m), fun w' => ?_, Rd.int (by split <;> assumption)⟩
    unfold execOp
    rw [ho]
    simp [resolve, h1, h2, invoke, builtin, Builtin.min_, Builtin.min2, g1, g3]
theorem OpS.min2 {c : Call} {x y : Operand} {k : IntKind} {m n : Int} (ho : o.op = .call c) (h1 : c.callee = .builtin .min) (h2 : c.args = #[x, y]) (hx : st.ev x = .t (.int k m)) (hy : st.ev y = .t (.int k n)) (hK : KE (.t (.int k (if n < m then n else m))) []) : OpS P B W o st KE := (OpQ.min2 ho h1 h2 hx hy hK).s
/-! ### Shifts -/
theorem fdiv_in {m d : Int} (hd : 1 ≤ d) : (0 ≤ m → 0 ≤ m.fdiv d ∧ m.fdiv d ≤ m) ∧ (m < 0 → m ≤ m.fdiv d ∧ m.fdiv d < 0) := by
  have e : m.fdiv d = m / d := Int.fdiv_eq_ediv_of_nonneg m (by omega)
  rw [e]
  refine ⟨fun h => ⟨Int.ediv_nonneg h (by omega), Int.ediv_le_self _ h⟩, fun h => ⟨?_, Int.ediv_neg_of_neg_of_pos h (by omega)⟩⟩
  rw [Int.le_ediv_iff_mul_le (by omega)]
  have h5 : 0 ≤ (-m) * (d - 1) := Int.mul_nonneg (by omega) (by omega)
  rw [Int.neg_mul, Int.mul_sub, Int.mul_one] at h5
  omega
theorem OpQ.shr {t t' : TypeId} {x y : Operand} {k k' : IntKind} {m n : Int} (ho : o.op = .binOp .shr t x y t') (hx : st.ev x = .t (.int k m)) (hy : st.ev y = .t (.int k' n)) (hn : 0 ≤ n) (hK : KE (.t (.int k (m.fdiv (2 ^ (min n.toNat k.bits))))) []) : OpQ P B W o os st KE :=
  OpQ.pure_ hK fun a w pl F hs => by
    have hw := (hs.int_at hx).2
    refine ⟨.int k (m.fdiv (2 ^ (min n.toNat k.bits))), fun w' => ?_, Rd.int ?_⟩
    · unfold execOp
      rw [ho]
      refine exec_value ?_
      rw [(hs.int_at hx).1, (hs.int_at hy).1]
      have h0 : ¬ n < 0 := by omega
      simp [eqGuard, binOp, Op.shift, h0]
    · have hd : (1 : Int) ≤ 2 ^ (min n.toNat k.bits) := Int.pow_pos (by decide)
      obtain ⟨h1, h2⟩ := fdiv_in (m := m) hd
      simp only [Lit.wf, Bool.and_eq_true, decide_eq_true_eq] at hw ⊢
      have h3 : k.min ≤ 0 ∧ 0 ≤ k.max := by cases k <;> exact ⟨by decide, by decide⟩
      rcases Int.lt_or_le m 0 with h | h
      · have := h2 h; omega
      · have := h1 h; omega
theorem OpS.shr {t t' : TypeId} {x y : Operand} {k k' : IntKind} {m n : Int} (ho : o.op = .binOp .shr t x y t') (hx : st.ev x = .t (.int k m)) (hy : st.ev y = .t (.int k' n)) (hn : 0 ≤ n) (hK : KE (.t (.int k (m.fdiv (2 ^ (min n.toNat k.bits))))) []) : OpS P B W o st KE := (OpQ.shr ho hx hy hn hK).s
end
end Go.Proofs.Ytmkpgcahmbancaa.Ab
