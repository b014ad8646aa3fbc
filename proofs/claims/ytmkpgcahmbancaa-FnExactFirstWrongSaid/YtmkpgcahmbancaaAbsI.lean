/- What is proved: the calculus of abstract states: slice literals and appends, ready for use.
   Conditions: none beyond those that each lemma names. -/
import Derived.Test.YtmkpgcahmbancaaAbsA
import Derived.Laws.IdiomStrings
import Derived.Great.FillDense
import Derived.Laws.Tables
import Derived.Laws.Slices
namespace Go.Proofs.Ytmkpgcahmbancaa.Ab
set_option linter.unusedSimpArgs false
set_option linter.unusedVariables false
open Go.RowKit

theorem notT {b : Bool} (h : b = false) : (!b) = true := by rw [h]; rfl
theorem notF {b : Bool} (h : b = true) : (!b) = false := by rw [h]; rfl
theorem int_t {P : Program} {t : TypeId} {y : Ty} {k : IntKind} (h : tinfo P t = some y) (hk : y.k = .int k) : P.underlying t = some (.int k) := by
  obtain ⟨d, i, hd, hi, hk', _⟩ := tinfo_parts h
  rw [hk'] at hk
  cases d <;> simp [kdOf] at hk
  subst hk; exact hd
theorem str_t {P : Program} {t : TypeId} {y : Ty} (h : tinfo P t = some y) (hk : y.k = .str) : P.underlying t = some .string := by
  obtain ⟨d, i, hd, hi, hk', _⟩ := tinfo_parts h
  rw [hk'] at hk
  cases d <;> simp [kdOf] at hk
  exact hd
theorem some_t {P : Program} {t : TypeId} {y : Ty} (h : tinfo P t = some y) : ∃ d, P.underlying t = some d := by
  obtain ⟨d, i, hd, _⟩ := tinfo_parts h
  exact ⟨d, hd⟩

/-! ### Conversions -/
section
variable {P : Program} {B : Nat → Prop} {W : En} {o : Oper} {os : List Nat} {st : St} {KE : V → List (Nat × Nat × Ob) → Prop}
theorem exec_convert {src dst : TypeId} {x : Operand} {a : Act} {w w' : World} {u : Value} (ho : o.op = .convert src dst x) (h : (convert src dst (a.eval x)).run P w = .ok u w') : (execOp a.eval o).run P w = .ok (.value u) w' := by
  unfold execOp
  rw [ho]
  exact exec_value h
theorem run_convert_i {src dst : TypeId} {k k' : IntKind} {n : Int} {ys yd : Ty} (hs : tinfo P src = some ys) (hd : tinfo P dst = some yd) (hk : yd.k = .int k') (w : World) : (convert src dst (.int k n)).run P w = .ok (.int k' (k'.wrap n)) w := by
  obtain ⟨d, hd'⟩ := some_t hs
  simp [convert, run_underlying hd', run_underlying (int_t hd hk), Conv.intToInt]
theorem OpQ.conv_int {src dst : TypeId} {x : Operand} {k k' : IntKind} {n : Int} {ys yd : Ty} (ho : o.op = .convert src dst x) (hx : st.ev x = .t (.int k n)) (hs : tinfo P src = some ys) (hd : tinfo P dst = some yd) (hk : yd.k = .int k') (hK : KE (.t (.int k' (k'.wrap n))) []) : OpQ P B W o os st KE :=
  OpQ.pure_ hK fun a w pl F h => ⟨_, fun w' => exec_convert ho (by rw [(h.int_at hx).1]; exact run_convert_i hs hd hk w'), Rd.int (wf_wrap _ _)⟩
theorem OpQ.s (h : OpQ P B W o [] st KE) : OpS P B W o st KE := by
  obtain ⟨v, hK, h⟩ := h
  exact OpS.pure_ hK fun a w pl F hs => by
    obtain ⟨u, h1, h2⟩ := h a w pl F hs
    exact ⟨u, h1 w fun _ _ => rfl, h2⟩
theorem OpS.conv_int {src dst : TypeId} {x : Operand} {k k' : IntKind} {n : Int} {ys yd : Ty} (ho : o.op = .convert src dst x) (hx : st.ev x = .t (.int k n)) (hs : tinfo P src = some ys) (hd : tinfo P dst = some yd) (hk : yd.k = .int k') (hK : KE (.t (.int k' (k'.wrap n))) []) : OpS P B W o st KE :=
  (OpQ.conv_int ho hx hs hd hk hK).s
theorem wrap_in {k : IntKind} {n : Int} (h : (Lit.int k n).wf = true) : k.wrap n = n := by
  simp only [Lit.wf, Bool.and_eq_true, decide_eq_true_eq] at h
  revert h
  cases k <;> simp [IntKind.wrap, IntKind.min, IntKind.max, IntKind.signed, IntKind.bits] <;> intro h1 h2 <;> omega
theorem OpQ.conv_id {src dst : TypeId} {x : Operand} {k k' : IntKind} {n : Int} {ys yd : Ty} (ho : o.op = .convert src dst x) (hx : st.ev x = .t (.int k n)) (hs : tinfo P src = some ys) (hd : tinfo P dst = some yd) (hk : yd.k = .int k') (hn : k'.min ≤ n ∧ n ≤ k'.max) (hK : KE (.t (.int k' n)) []) : OpQ P B W o os st KE :=
  OpQ.conv_int ho hx hs hd hk (by rw [wrap_in (by simp only [Lit.wf, Bool.and_eq_true, decide_eq_true_eq]; exact hn)]; exact hK)
theorem OpS.conv_id {src dst : TypeId} {x : Operand} {k k' : IntKind} {n : Int} {ys yd : Ty} (ho : o.op = .convert src dst x) (hx : st.ev x = .t (.int k n)) (hs : tinfo P src = some ys) (hd : tinfo P dst = some yd) (hk : yd.k = .int k') (hn : k'.min ≤ n ∧ n ≤ k'.max) (hK : KE (.t (.int k' n)) []) : OpS P B W o st KE :=
  (OpQ.conv_id ho hx hs hd hk hn hK).s
/-- The bytes of a string, as a row's elements. -/
def bytesE (s : List UInt8) : List (List T) := s.map fun c => [.int .u8 (c.toNat : Nat)]
theorem bytesE_flat {s : List UInt8} : ∀ x ∈ (bytesE s).flatten, x.flat = true := by
  intro x hx
  obtain ⟨l, hl, hx⟩ := List.mem_flatten.1 hx
  obtain ⟨c, _, rfl⟩ := List.mem_map.1 hl
  cases List.mem_singleton.1 hx; rfl
theorem bytesE_flatten : ∀ (s : List UInt8), (bytesE s).flatten = s.map fun c => .int .u8 (c.toNat : Nat)
  | [] => rfl
  | c :: s => by
    show [T.int .u8 _] ++ (bytesE s).flatten = _
    rw [bytesE_flatten s]; rfl
theorem OpS.conv_bytes {src dst : TypeId} {x : Operand} {s : List UInt8} {ys yd ye : Ty} {e eb site ep : Nat} (ho : o.op = .convert src dst x) (hdst : o.dst = some site) (hx : st.ev x = .t (.str s)) (hs : tinfo P src = some ys) (hks : ys.k = .str) (hd : tinfo P dst = some yd) (hk : yd.k = .slice e 1 eb) (he : tinfo P e = some ye) (hke : ye.k = .int .u8)
    (hep : nep (look st.objs site) = ep) (hK : KE (.hnd site ep) [(site, ep, .row true true e (bytesE s))]) : OpS P B W o st KE := by
  obtain ⟨h1, h2, h3⟩ := slice_t hd hk
  refine OpS.newrow (ks := []) (els := bytesE s) hep (fun x e h => by cases h) (fun y hy => ?_) (fun _ => bytesE_flat) hK fun a w pl F h => ?_
  · obtain ⟨c, _, rfl⟩ := List.mem_map.1 hy; rw [h2]; rfl
  · obtain ⟨g1, g2⟩ := h.str_at hx
    have hr := run_bytes_of_string w src dst e (bs s) (str_t hs hks) h1 (int_t he hke)
    have hge := grownCap_ge w (bs s).size 0 e
    have hlm := grownCap_le_maxLen w (bs s).size 0 e (by rw [bs_size]; exact g2)
    rw [bs_size] at hge hlm hr
    have hlen : (bytesE s).length = s.length := List.length_map _
    have hsz : (bytesRow (bs s) (grownCap w s.length 0 e)).size = grownCap w s.length 0 e := by
      simp [bytesRow, bs, ByteArray.size]; omega
    refine ⟨s.map fun c => .int .u8 (c.toNat : Nat), _, _, exec_convert ho (by rw [g1]; exact hr), ?_, ?_, fun b hb => ?_, ?_⟩
    · exact ⟨rfl, rfl, rfl, by show w.heap.size ≤ (w.heap.push _).size; simp, fun k hk => by
        show (w.heap.push _)[k]? = _
        rw [Array.getElem?_push, if_neg (by omega)]⟩
    · rw [hlen, h2]
      refine ⟨by simp, .inr ⟨w.heap.size, 0, grownCap w s.length 0 e, bytesRow (bs s) (grownCap w s.length 0 e), ((bytesRow (bs s) (grownCap w s.length 0 e)).size, (bytesRow (bs s) (grownCap w s.length 0 e)).size + 1), rfl, ?_, .inr (Nat.le_refl _), hge, hlm, by rw [hsz]; simp, ?_⟩⟩
      · show (w.heap.push _)[w.heap.size]? = _
        simp
      · simp [bytesRow, bs]
    · cases hb
      exact ⟨Nat.le_refl _, by show w.heap.size < (w.heap.push _).size; simp⟩
    · refine cv_flat ?_ bytesE_flat true
      rw [bytesE_flatten]
      refine ⟨by simp, fun k c u hc hu => ?_⟩
      rw [List.getElem?_map, Option.map_eq_some_iff] at hc hu
      obtain ⟨b, hb, rfl⟩ := hc
      obtain ⟨b', hb', rfl⟩ := hu
      rw [hb] at hb'
      cases hb'
      exact Rd.int (wf_u8 b)
/-- What bytes stand in a row's elements. -/
def byteOf : List T → UInt8
  | [.int _ n] => UInt8.ofNat n.toNat
  | _ => 0
def isByte : List T → Bool
  | [.int k _] => (match k with | .u8 => true | _ => false)
  | _ => false
theorem isByte_of {x : List T} (h : isByte x = true) : ∃ n, x = [.int .u8 n] := by
  unfold isByte at h
  split at h
  · rename_i k n
    cases k <;> first | exact ⟨n, rfl⟩ | cases h
  · cases h
theorem byteOf_back {n : Int} (h : (Lit.int .u8 n).wf = true) : ((UInt8.ofNat n.toNat).toNat : Int) = n := by
  simp only [Lit.wf, IntKind.min, IntKind.max, IntKind.signed, IntKind.bits] at h
  simp at h
  simp
  omega
theorem run_conv_str {src dst : TypeId} {ys yd ye : Ty} {e eb : Nat} (hs : tinfo P src = some ys) (hks : ys.k = .slice e 1 eb) (hd : tinfo P dst = some yd) (hk : yd.k = .str) (he : tinfo P e = some ye) (hke : ye.k = .int .u8) {w : World} {A : Option Addr} {c : Nat} {l : List UInt8}
    (hc : l ≠ [] → ∃ ad, A = some ad ∧ ∀ j (hj : j < l.length), w.cell? (ad.add j) = some (.int .u8 (l[j].toNat : Int))) : (convert src dst (.slice A l.length c)).run P w = .ok (.string (bs l)) w := by
  obtain ⟨h1, h2, h3⟩ := slice_t hs hks
  by_cases hn : l = []
  · subst hn
    show (convert src dst (.slice A 0 c)).run P w = _
    rw [run_convert_bytes_string w src dst e A 0 c h1 (int_t he hke) (str_t hd hk)]
    cases A with
    | none => simp [Conv.bytesToString, bs]; rfl
    | some ad => simp [Conv.bytesToString, bs, loadCells]; rfl
  · obtain ⟨ad, e1, hc2⟩ := hc hn
    subst e1
    exact run_convert_bytes_back w src dst e ad c l h1 (int_t he hke) (str_t hd hk) hc2
theorem flatten_one {l : List (List T)} (h : ∀ x ∈ l, isByte x = true) (j : Nat) (hj : j < l.length) : ∃ n, l.flatten[j]? = some (.int .u8 n) ∧ l.getD j [] = [.int .u8 n] := by
  have hu : ∀ x ∈ l, x.length = 1 := fun x hx => by obtain ⟨n, rfl⟩ := isByte_of (h x hx); rfl
  obtain ⟨n, hn⟩ := isByte_of (h _ (getD_mem hj))
  have := flatten_at hu hj (Nat.zero_lt_one)
  rw [Nat.mul_one, Nat.add_zero, hn] at this
  exact ⟨n, this, hn⟩
theorem conv_cells {P : Program} {w : World} {B : Nat → Prop} {els : List (List T)} {us : List Value} {A : Option Addr} (hb : ∀ x ∈ els, isByte x = true) (hl : els.flatten.length = us.length) (hm : us ≠ [] → ∃ ad, A = some ad ∧ ∀ k u, us[k]? = some u → w.cell? (ad.add k) = some u) (hr : ∀ (k : Nat) (x : T) (u : Value), els.flatten[k]? = some x → us[k]? = some u → Rd P w B x u) :
    els.map byteOf ≠ [] → ∃ ad, A = some ad ∧ ∀ j (hj : j < (els.map byteOf).length), w.cell? (ad.add j) = some (.int .u8 ((els.map byteOf)[j].toNat : Int)) := fun hn => by
  have hu1 : ∀ x ∈ els, x.length = 1 := fun x hx => by obtain ⟨n, rfl⟩ := isByte_of (hb x hx); rfl
  have hlen : us.length = els.length := by rw [← hl, flatten_len hu1, Nat.mul_one]
  have hpos : 0 < els.length := List.length_pos_iff.2 fun e => hn (by rw [e]; rfl)
  obtain ⟨ad, rfl, hc⟩ := hm fun e => by rw [e] at hlen; simp at hlen; omega
  refine ⟨ad, rfl, fun j hj => ?_⟩
  have hj' : j < els.length := by simpa using hj
  obtain ⟨n, h1, h2⟩ := flatten_one hb j hj'
  have hju : j < us.length := by omega
  have h3 := hr j _ _ h1 (List.getElem?_eq_getElem hju)
  rw [hc j _ (List.getElem?_eq_getElem hju)]
  have h4 : els[j] = [.int .u8 n] := by rw [← h2, List.getD_eq_getElem?_getD, List.getElem?_eq_getElem hj']; rfl
  generalize us[j] = u at h3
  cases h3 with
  | int hw =>
    rw [List.getElem_map, h4]
    show some (Value.int .u8 n) = some (.int .u8 ((UInt8.ofNat n.toNat).toNat : Int))
    rw [byteOf_back hw]
theorem isB_bytes {s : List UInt8} : ∀ x ∈ bytesE s, isByte x = true := by
  intro x hx
  obtain ⟨c, _, rfl⟩ := List.mem_map.1 hx
  rfl
theorem isB_set {els : List (List T)} {n : Nat} {c : List T} (h : ∀ x ∈ els, isByte x = true) (hc : isByte c = true) : ∀ x ∈ els.set n c, isByte x = true := by
  intro x hx
  rcases List.mem_or_eq_of_mem_set hx with hx | rfl
  · exact h x hx
  · exact hc
theorem isB_app {a b : List (List T)} (ha : ∀ x ∈ a, isByte x = true) (hb : ∀ x ∈ b, isByte x = true) : ∀ x ∈ a ++ b, isByte x = true := by
  intro x hx
  rcases List.mem_append.1 hx with hx | hx
  · exact ha x hx
  · exact hb x hx
theorem isB_one {c : List T} (hc : isByte c = true) : ∀ x ∈ [c], isByte x = true := by
  intro x hx
  rw [List.mem_singleton.1 hx]
  exact hc
theorem isB_nil : ∀ x ∈ ([] : List (List T)), isByte x = true := fun x hx => by cases hx
theorem isB_cons {c : List T} {r : List (List T)} (hc : isByte c = true) (hr : ∀ x ∈ r, isByte x = true) : ∀ x ∈ c :: r, isByte x = true := by
  intro x hx
  rcases List.mem_cons.1 hx with rfl | hx
  · exact hc
  · exact hr x hx
theorem isB_str {b : List UInt8} : ∀ x ∈ b.map (fun c => [T.int .u8 (c.toNat : Nat)]), isByte x = true := isB_bytes
theorem byteOf_bytes : ∀ (s : List UInt8), (bytesE s).map byteOf = s
  | [] => rfl
  | c :: r => by
    show byteOf [T.int .u8 (c.toNat : Nat)] :: (bytesE r).map byteOf = _
    rw [byteOf_bytes r]
    simp [byteOf]
theorem byteOf_str (b : List UInt8) : (b.map fun c => [T.int .u8 (c.toNat : Nat)]).map byteOf = b := byteOf_bytes b
theorem bytesE_len {s : List UInt8} : (bytesE s).length = s.length := List.length_map _
/-- A row of bytes as a string. -/
theorem OpS.conv_str {src dst : TypeId} {x : Operand} {i ep : Nat} {fl d : Bool} {els : List (List T)} {ys yd ye : Ty} {e e' eb : Nat} (ho : o.op = .convert src dst x) (hx : st.ev x = .hnd i ep) (hl : look st.objs i = some (ep, .row fl d e' els)) (hs : tinfo P src = some ys) (hks : ys.k = .slice e 1 eb) (hd : tinfo P dst = some yd) (hk : yd.k = .str) (he : tinfo P e = some ye) (hke : ye.k = .int .u8)
    (hb : ∀ x ∈ els, isByte x = true) (hK : KE (.t (.str (els.map byteOf))) []) : OpS P B W o st KE :=
  OpS.pure_ hK fun a w pl F h => by
    obtain ⟨g1, us, hp⟩ := h.hnd_at hx hl
    obtain ⟨A, c, g2, g3, g4, g5⟩ := hp.slice
    have hlen : (els.map byteOf).length = els.length := List.length_map _
    refine ⟨.string (bs (els.map byteOf)), exec_convert ho ?_, Rd.str (by rw [hlen]; omega)⟩
    rw [g1, g2, ← hlen]
    refine run_conv_str hs hks hd hk he hke (conv_cells hb hp.len (fun hn => ?_) hp.rd)
    obtain ⟨g, off, rfl, _, _, h6⟩ := g5 hn
    exact ⟨_, rfl, fun k u hu => by rw [add_lit0]; exact h6 k u hu⟩
theorem OpS.conv_str_lst {src dst : TypeId} {x : Operand} {fl : Bool} {els : List (List T)} {ys yd ye : Ty} {e e' eb : Nat} (ho : o.op = .convert src dst x) (hx : st.ev x = .t (.lst fl e' els)) (hs : tinfo P src = some ys) (hks : ys.k = .slice e 1 eb) (hd : tinfo P dst = some yd) (hk : yd.k = .str) (he : tinfo P e = some ye) (hke : ye.k = .int .u8)
    (hb : ∀ x ∈ els, isByte x = true) (hK : KE (.t (.str (els.map byteOf))) []) : OpS P B W o st KE :=
  OpS.pure_ hK fun a w pl F h => by
    obtain ⟨A, c, us, g1, g2, g3, g4, g5, g6, g7, g8⟩ := h.lst_at hx
    have hlen : (els.map byteOf).length = els.length := List.length_map _
    refine ⟨.string (bs (els.map byteOf)), exec_convert ho ?_, Rd.str (by rw [hlen]; omega)⟩
    rw [g1, ← hlen]
    refine run_conv_str hs hks hd hk he hke (conv_cells hb g6 (fun hn => ?_) g8)
    obtain ⟨ad, e1, _, e2⟩ := g7 hn
    exact ⟨ad, e1, e2⟩
theorem OpS.conv_str_nil {src dst : TypeId} {x : Operand} {ys yd ye : Ty} {e eb : Nat} (ho : o.op = .convert src dst x) (hx : st.ev x = .t .nil) (hs : tinfo P src = some ys) (hks : ys.k = .slice e 1 eb) (hd : tinfo P dst = some yd) (hk : yd.k = .str) (he : tinfo P e = some ye) (hke : ye.k = .int .u8)
    (hK : KE (.t (.str [])) []) : OpS P B W o st KE :=
  OpS.pure_ hK fun a w pl F h => by
    refine ⟨.string (bs []), exec_convert ho ?_, Rd.str (by simp)⟩
    rw [h.nil_at hx]
    exact run_conv_str (l := []) hs hks hd hk he hke fun h => absurd rfl h

/-! ### Stores into rows -/
theorem setRange_get {α : Type} (cs vs : List α) (off k : Nat) (h : off + vs.length ≤ cs.length) : (setRange cs off vs)[k]? = if off ≤ k ∧ k < off + vs.length then vs[k - off]? else cs[k]? := by
  unfold setRange
  by_cases h1 : k < off
  · rw [if_neg (by omega), List.getElem?_append_left (by simp; omega), List.getElem?_append_left (by simp; omega), List.getElem?_take, if_pos h1]
  · by_cases h2 : k < off + vs.length
    · rw [if_pos ⟨by omega, h2⟩, List.getElem?_append_left (by simp; omega), List.getElem?_append_right (by simp; omega)]
      congr 1
      simp; omega
    · rw [if_neg (by omega), List.getElem?_append_right (by simp; omega), List.getElem?_drop]
      congr 1
      simp; omega
theorem setRange_len {α : Type} (cs vs : List α) (off : Nat) (h : off + vs.length ≤ cs.length) : (setRange cs off vs).length = cs.length := by
  unfold setRange; simp; omega
theorem setRange_take {α : Type} (cs vs : List α) (off n : Nat) (h : off + vs.length ≤ n) (hn : n ≤ cs.length) : (setRange cs off vs).take n = setRange (cs.take n) off vs := by
  apply List.ext_getElem?
  intro k
  rw [setRange_get _ _ _ _ (by simp; omega), List.getElem?_take, setRange_get _ _ _ _ (by omega), List.getElem?_take]
  by_cases hk : k < n
  · simp [hk]
  · rw [if_neg hk, if_neg hk, if_neg (by omega)]
theorem flatten_set {α : Type} {s : Nat} : ∀ {els : List (List α)} (_ : ∀ x ∈ els, x.length = s) {n : Nat} (_ : n < els.length) {off : Nat} {ts : List α} (_ : off + ts.length ≤ s), (els.set n (setRange (els.getD n []) off ts)).flatten = setRange els.flatten (n * s + off) ts
  | [], _, n, hn, _, _, _ => by simp at hn
  | x :: els, hu, 0, _, off, ts, ho => by
    have hx := hu x (by simp)
    simp only [List.set_cons_zero, List.flatten_cons, List.getD_cons_zero, Nat.zero_mul, Nat.zero_add]
    unfold setRange
    rw [List.take_append_of_le_length (by omega), List.drop_append_of_le_length (by omega), List.append_assoc (x.take off ++ ts)]
  | x :: els, hu, n + 1, hn, off, ts, ho => by
    have hx := hu x (by simp)
    have ih := flatten_set (els := els) (fun y hy => hu y (by simp [hy])) (n := n) (by simpa using hn) ho
    simp only [List.set_cons_succ, List.flatten_cons, List.getD_cons_succ]
    rw [ih]
    unfold setRange
    have e1 : (n + 1) * s + off = x.length + (n * s + off) := by rw [Nat.add_mul, hx]; omega
    rw [e1, List.take_length_add_append, Nat.add_assoc x.length, List.drop_length_add_append]
    simp
def flatT : List V → Option (List T)
  | [] => some []
  | .t x :: r => match x.flat with | true => (match flatT r with | some ts => some (x :: ts) | none => none) | false => none
  | _ => none
theorem getD_map {α : Type} [Inhabited α] {f : α → List T} {xs : List α} {m : Nat} (h : m < xs.length) : (xs.map f).getD m [] = f (xs.getD m default) := by simp [h]
theorem flatT_eq : ∀ {vs : List V} {ts : List T}, flatT vs = some ts → vs = ts.map .t ∧ ∀ x ∈ ts, x.flat = true
  | [], ts, h => by cases h; exact ⟨rfl, fun _ h => by cases h⟩
  | v :: r, ts, h => by
    cases v with
    | t x =>
      simp only [flatT] at h
      split at h
      · rename_i hf
        split at h
        · rename_i ts' hr
          cases h
          obtain ⟨h1, h2⟩ := flatT_eq hr
          refine ⟨by rw [h1]; rfl, fun y hy => ?_⟩
          rcases List.mem_cons.1 hy with rfl | hy
          · exact hf
          · exact h2 y hy
        · cases h
      · cases h
    | _ => cases h
theorem setRange_drop {α : Type} (cs : List α) (b q : Nat) (vs : List α) (h : b + q ≤ cs.length) : (setRange cs (b + q) vs).drop b = setRange (cs.drop b) q vs := by
  unfold setRange
  rw [List.append_assoc, List.drop_append_of_le_length (by rw [List.length_take]; omega), List.drop_take, Nat.add_sub_cancel_left, List.drop_drop, Nat.add_assoc, List.append_assoc]
theorem OpS.store_elem {ty : TypeId} {x z : Operand} {i ep n off : Nat} {fl d : Bool} {e : TypeId} {els : List (List T)} {y : Ty} {v : V} {ts cs : List T} (ho : o.op = .store ty x z) (hx : st.ev x = .ptr i ep n off) (hl : look st.objs i = some (ep, .row fl d e els)) (hy : tinfo P ty = some y)
    (hz : st.ev z = v) (hs : (cellsV v).all V.sto = true) (hts : flatT (cellsV v) = some ts) (hn : (cellsV v).length = y.size) (hlt : n < els.length) (hc : els.getD n [] = cs) {ye : Ty} (hye : tinfo P e = some ye) (hle : Nat.ble (off + ts.length) ye.size = true) (hpos : Nat.beq y.size 0 = false) (hK : KE (.lit undef) [(i, ep, .row fl d e (els.set n (setRange cs off ts)))]) : OpS P B W o st KE := by
  subst hz hc
  have hle : off + ts.length ≤ P.cellsOf e := by rw [cellsOf_t hye]; exact Nat.le_of_ble_eq_true hle
  have hpos : y.size ≠ 0 := Nat.ne_of_beq_eq_false hpos
  obtain ⟨hv, hf⟩ := flatT_eq hts
  refine OpS.chg (ks := []) hK (fun x e h => by cases h) fun a w pl F h => ?_
  have h1 := h.ev x
  rw [hx] at h1
  obtain ⟨_, ep', ob, h2, h3, h4⟩ : C0 P w (look st.objs) pl (Free B W.o (look st.objs) F w) (.ptr i ep n off) (a.eval x) := h1
  rw [hl] at h2
  cases h2
  obtain ⟨g, bb, hg, hu⟩ := h4 rfl
  have hob := h.objs i _ _ hl
  obtain ⟨us0, hp⟩ := row_parts hob
  have huni := hp.uni
  have hnL : n * P.cellsOf e + P.cellsOf e ≤ els.length * P.cellsOf e := by rw [← Nat.succ_mul]; exact Nat.mul_le_mul_right _ hlt
  obtain ⟨vs, hv1, hv2, hv3⟩ := ((h.ev z).c1 hs).cells hs
  have hlen : vs.length = ts.length := by rw [hv2.1, hv, List.length_map]
  have htl : ts.length = y.size := by rw [← hn, hv, List.length_map]
  have hvr : ∀ (k : Nat) (x : T) (u : Value), ts[k]? = some x → vs[k]? = some u → Rd P w (fun _ => False) x u := fun k x u hx hu => by
    have := hv2.2 k (.t x) u (by rw [hv, List.getElem?_map, hx]; rfl) hu
    exact Rd.flat this (hf x (List.mem_of_getElem? hx))
  -- the row's block
  have key : ∀ us, OwnsR w e (P.cellsOf e) (pl i) els.length us → ∃ cap cur fz, pl i = .slice (some ⟨g, bb, none⟩) els.length cap ∧ w.heap[g]? = some (.cells cur e fz) ∧ (fz = (0, 0) ∨ cur.size ≤ fz.1) ∧ els.length ≤ cap ∧ cap ≤ maxLen ∧ bb + cap * P.cellsOf e ≤ cur.size ∧ (cur.toList.drop bb).take (els.length * P.cellsOf e) = us := fun us ho => by
    rcases ho.2 with ⟨_, h0⟩ | ⟨g', off', cap, cur, fz, e1, rest⟩
    · omega
    · rw [e1] at hg
      simp only [blk, Option.some.injEq, Prod.mk.injEq] at hg
      obtain ⟨rfl, rfl⟩ := hg
      exact ⟨cap, cur, fz, e1, rest⟩
  obtain ⟨cap, cur, fz, k1, k3, k4, k5, k6, k7, k8⟩ := key us0 hp.own
  have hcap : bb + els.length * P.cellsOf e ≤ cur.size := Nat.le_trans (Nat.add_le_add_left (Nat.mul_le_mul_right _ k5) _) k7
  have hrun := run_storeCells_g P g (bb + (n * P.cellsOf e + off)) e fz vs 0 cur w k3 k4 (by omega) hv3
  have hcur : (cur.toList.take (bb + (n * P.cellsOf e + off) + 0) ++ vs ++ cur.toList.drop (bb + (n * P.cellsOf e + off) + 0 + vs.length)) = setRange cur.toList (bb + (n * P.cellsOf e + off)) vs := rfl
  rw [hcur] at hrun
  have htop : (pl i).ownBlock = some g := by rw [k1]; rfl
  have hFg : F i g := hp.top g htop
  have k2 : W.o g := (h.range i _ g hl hFg).1
  have hown : ∀ us, OwnsR w e (P.cellsOf e) (pl i) els.length us → OwnsR (w.setRow g (setRange cur.toList (bb + (n * P.cellsOf e + off)) vs).toArray) e (P.cellsOf e) (pl i) (els.set n (setRange (els.getD n []) off ts)).length (setRange us (n * P.cellsOf e + off) vs) := fun us ho => by
    rw [List.length_set]
    have hus : us = us0 := ho.uniq hp.own
    subst hus
    refine ⟨by rw [setRange_len _ _ _ (by rw [ho.1]; omega)]; exact ho.1, .inr ⟨g, bb, cap, _, fz, k1, setRow_heap w g cur _ e fz k3, ?_, k5, k6, ?_, ?_⟩⟩
    · rcases k4 with k4 | k4
      · exact .inl k4
      · exact .inr (by rw [List.size_toArray, setRange_len _ _ _ (by simp; omega)]; simpa using k4)
    · rw [List.size_toArray, setRange_len _ _ _ (by simp; omega)]; simpa using k7
    · rw [List.toList_toArray, setRange_drop _ _ _ _ (by simp; omega), setRange_take _ _ _ _ (by omega) (by simp; omega), k8]
  have huni' : ∀ x ∈ els.set n (setRange (els.getD n []) off ts), x.length = P.cellsOf e := fun x hx => by
    rcases List.mem_or_eq_of_mem_set hx with hx | rfl
    · exact huni x hx
    · have h0 := huni _ (getD_mem hlt)
      rw [setRange_len _ _ _ (by omega)]; exact h0
  have hfl' := flatten_set huni hlt hle
  have hL : els.flatten.length = els.length * P.cellsOf e := flatten_len huni
  have hflt : fl = true → ∀ x ∈ (els.set n (setRange (els.getD n []) off ts)).flatten, x.flat = true := fun hfl x hx => by
    rw [hfl'] at hx
    unfold setRange at hx
    rcases List.mem_append.1 hx with hx | hx
    · rcases List.mem_append.1 hx with hx | hx
      · exact hp.flt hfl x (List.mem_of_mem_take hx)
      · exact hf x hx
    · exact hp.flt hfl x (List.mem_of_mem_drop hx)
  have hmain : ∃ F' : Nat → Prop, (∀ b, F' b → F i b) ∧ ∀ (lk' : Nat → Option (Nat × Ob)) (pl' : Nat → Value) (Fr' : Nat → Prop), Goes P w (w.setRow g (setRange cur.toList (bb + (n * P.cellsOf e + off)) vs).toArray) (look st.objs) lk' pl pl' (Free B W.o (look st.objs) F w) Fr' →
      ObR P (w.setRow g (setRange cur.toList (bb + (n * P.cellsOf e + off)) vs).toArray) (C0 P (w.setRow g (setRange cur.toList (bb + (n * P.cellsOf e + off)) vs).toArray) lk' pl' Fr') (Rd P (w.setRow g (setRange cur.toList (bb + (n * P.cellsOf e + off)) vs).toArray) Fr') (pl i) F' (.row fl d e (els.set n (setRange (els.getD n []) off ts))) := by
    rcases hob with ⟨hd, hob⟩ | ⟨hd, us, h1, h2, h3, h4, h5, h6⟩
    · cases hob with
      | flat hf => cases hf
      | lst us fs h1 h2 h3 h4 h5 h6 h7 h8 =>
        have hul : us.length = els.length * P.cellsOf e := h1.1
        refine ⟨fun b => (pl i).ownBlock = some b ∨ ∃ k, fs k b ∧ ¬ (n * P.cellsOf e + off ≤ k ∧ k < n * P.cellsOf e + off + vs.length), fun b hb => (h8 b).2 (hb.imp id fun ⟨k, h, _⟩ => ⟨k, h⟩), fun lk' pl' Fr' gg => ?_⟩
        refine .inl ⟨hd, .lst (setRange us (n * P.cellsOf e + off) vs) (fun k b => fs k b ∧ ¬ (n * P.cellsOf e + off ≤ k ∧ k < n * P.cellsOf e + off + vs.length)) (hown us h1) huni' hflt (by rw [hfl', setRange_len _ _ _ (by omega), setRange_len _ _ _ (by omega)]; exact h4) (fun k x u hx hu => ?_) (fun k k' b hne hk hk' => h6 k k' b hne hk.1 hk'.1) (fun k b hk => h7 k b hk.1) fun b => Iff.rfl⟩
        rw [hfl', setRange_get _ _ _ _ (by omega)] at hx
        rw [setRange_get _ _ _ _ (by omega)] at hu
        by_cases hk : n * P.cellsOf e + off ≤ k ∧ k < n * P.cellsOf e + off + vs.length
        · rw [if_pos (by rw [← hlen]; exact hk)] at hx
          rw [if_pos hk] at hu
          exact .flat (hf x (List.mem_of_getElem? hx)) ((hvr _ x u hx hu).flat (hf x (List.mem_of_getElem? hx))) fun b hb => hb.2 hk
        · rw [if_neg (by rw [← hlen]; exact hk)] at hx
          rw [if_neg hk] at hu
          have e1 : (fun b => fs k b ∧ ¬ (n * P.cellsOf e + off ≤ k ∧ k < n * P.cellsOf e + off + vs.length)) = fs k := funext fun b => propext ⟨fun h => h.1, fun h => ⟨h, hk⟩⟩
          show Ow P _ x u (fun b => fs k b ∧ ¬ (n * P.cellsOf e + off ≤ k ∧ k < n * P.cellsOf e + off + vs.length))
          rw [e1]
          refine (h5 k x u hx hu).keep fun b hb => setRow_other w g _ b fun e => ?_
          exact h7 k b hb (e ▸ htop)
    · have hul : us.length = els.length * P.cellsOf e := h1.1
      refine ⟨F i, fun _ h => h, fun lk' pl' Fr' gg => .inr ⟨hd, setRange us (n * P.cellsOf e + off) vs, hown us h1, huni', hflt, by rw [hfl', setRange_len _ _ _ (by omega), setRange_len _ _ _ (by omega)]; exact h4, fun k x u hx hu => ?_, h6⟩⟩
      rw [hfl', setRange_get _ _ _ _ (by omega)] at hx
      rw [setRange_get _ _ _ _ (by omega)] at hu
      by_cases hk : n * P.cellsOf e + off ≤ k ∧ k < n * P.cellsOf e + off + vs.length
      · rw [if_pos (by rw [← hlen]; exact hk)] at hx
        rw [if_pos hk] at hu
        exact (hvr _ x u hx hu).flat (hf x (List.mem_of_getElem? hx))
      · rw [if_neg (by rw [← hlen]; exact hk)] at hx
        rw [if_neg hk] at hu
        exact (h5 k x u hx hu).mono gg.more gg.heap
  obtain ⟨F', hF1, hF2⟩ := hmain
  refine ⟨_, _, pl i, F', undef, exec_store ho hy hu (by rw [hv1]; simp; omega) (by rw [hv1]; exact hrun), .inr ⟨rfl, rfl⟩, below_setRow k2 _, fun b hb hf => setRow_other w g _ b fun e => hf _ hl (e ▸ hFg), fun ep0 ob0 h0 => ?_, fun h0 => (by rw [hl] at h0; cases h0), fun b hb => .inr (.inl ⟨_, hl, hF1 b hb⟩), fun lk' pl' Fr' gg _ _ _ => ⟨hF2 lk' pl' Fr' gg, rfl⟩⟩
  rw [hl] at h0; cases h0; exact .inr ⟨rfl, rfl, rfl, rfl⟩
end
end Go.Proofs.Ytmkpgcahmbancaa.Ab
namespace Go.Proofs.Ytmkpgcahmbancaa.Ab
set_option linter.unusedSimpArgs false
set_option linter.unusedVariables false
open Go.RowKit

section
variable {P : Program} {B : Nat → Prop} {W : En} {o : Oper} {st : St} {KE : V → List (Nat × Nat × Ob) → Prop}
def T.cst : T → Bool
  | .int _ _ | .bool _ | .str _ | .nil => true
  | _ => false
theorem Rd.cst {w w' : World} {B B' : Nat → Prop} {x : T} {u : Value} (h : Rd P w B x u) (hf : x.cst = true) : Rd P w' B' x u := by
  cases h with
  | int h => exact .int h
  | bool => exact .bool
  | str h => exact .str h
  | nil => exact .nil
  | lst => cases hf
theorem Rd.cst_ow {w w' : World} {B F : Nat → Prop} {x : T} {u : Value} (h : Rd P w B x u) (hf : x.cst = true) (hF : ∀ b, ¬ F b) : Ow P w' x u F := by
  cases h with
  | int h => exact .flat rfl (.int h) hF
  | bool => exact .flat rfl .bool hF
  | str h => exact .flat rfl (.str h) hF
  | nil => exact .nil hF
  | lst => cases hf
theorem cv_cst {w : World} {F : Nat → Nat → Prop} {ts : List T} {us : List Value} (hp : Pw (Rd P w (Free B W.o (look st.objs) F w)) ts us) (hf : ∀ x ∈ ts, x.cst = true) (d : Bool) : Cv P B W st w F ts us [] d :=
  ⟨hp.1, fun u hu => by
    obtain ⟨k, hk, rfl⟩ := List.getElem_of_mem hu
    have hlt : k < ts.length := by rw [← hp.1]; exact hk
    exact (hp.2 k _ _ (List.getElem?_eq_getElem hlt) (List.getElem?_eq_getElem hk)).one, fun k x u hx hu => (hp.2 k x u hx hu).mono (fun b hb => .inl hb) fun _ _ => rfl,
    fun _ => ⟨fun _ _ => False, fun k x u hx hu => (hp.2 k x u hx hu).cst_ow (hf _ (List.mem_of_getElem? hx)) fun _ h => h, fun _ _ h => h.elim, fun _ _ _ _ h => h.elim⟩, fun o e h => (by cases h)⟩
def cstT : List V → Option (List T)
  | [] => some []
  | .t x :: r => match x.cst with | true => (match cstT r with | some ts => some (x :: ts) | none => none) | false => none
  | _ => none
theorem cstT_eq : ∀ {vs : List V} {ts : List T}, cstT vs = some ts → vs = ts.map .t ∧ ∀ x ∈ ts, x.cst = true
  | [], ts, h => by cases h; exact ⟨rfl, fun _ h => by cases h⟩
  | v :: r, ts, h => by
    cases v with
    | t x =>
      simp only [cstT] at h
      split at h
      · rename_i hf
        split at h
        · rename_i ts' hr
          cases h
          obtain ⟨h1, h2⟩ := cstT_eq hr
          refine ⟨by rw [h1]; rfl, fun y hy => ?_⟩
          rcases List.mem_cons.1 hy with rfl | hy
          · exact hf
          · exact h2 y hy
        · cases h
      · cases h
    | _ => cases h
theorem madeCells_at (z : Array Value) (n k : Nat) (hk : k < n) (hz : 0 < z.size) : (madeCells z n).toList[k]? = z.toList[k % z.size]? := by
  have hlt : k % z.size < z.size := Nat.mod_lt _ hz
  rw [Array.getElem?_toList, Array.getElem?_toList]
  simp [madeCells, hk, hlt]
theorem replicate_at {α : Type} (l : List α) (m k : Nat) (hk : k < m * l.length) : (List.replicate m l).flatten[k]? = l[k % l.length]? := by
  have hp : 0 < l.length := by
    rcases Nat.eq_zero_or_pos l.length with h | h
    · rw [h] at hk; simp at hk
    · exact h
  have hu : ∀ x ∈ List.replicate m l, x.length = l.length := fun x hx => by rw [List.eq_of_mem_replicate hx]
  have hi : k / l.length < m := Nat.div_lt_of_lt_mul (by rw [Nat.mul_comm]; exact hk)
  have h := flatten_at hu (i := k / l.length) (j := k % l.length) (by simpa using hi) (Nat.mod_lt _ hp)
  rw [Nat.mul_comm, Nat.div_add_mod] at h
  rw [h]
  simp [List.getD_eq_getElem?_getD, hi]
theorem OpS.makeSlice {t : TypeId} {xl xc : Operand} {kl kc : IntKind} {l c : Int} {y ye : Ty} {e es eb site ep : Nat} {zs : List V} {tz : List T} {fl : Bool} (ho : o.op = .makeSlice t xl xc) (hd : o.dst = some site) (hl : st.ev xl = .t (.int kl l)) (hc : st.ev xc = .t (.int kc c)) (hy : tinfo P t = some y) (hk : y.k = .slice e es eb) (hye : tinfo P e = some ye) (hyb : ye.bytes = eb) (hz : ye.zero = some zs) (hzt : cstT zs = some tz) (hes : Nat.beq tz.length es = true) (hpos : Nat.beq es 0 = false) (hfl : tz.all T.flat = fl)
    (hlc : 0 ≤ l ∧ l ≤ c ∧ (eb : Int) * c ≤ 281474976710656 ∧ c ≤ 9223372036854775807) (hep : nep (look st.objs site) = ep) (hK : KE (.hnd site ep) [(site, ep, .row fl true e (List.replicate l.toNat tz))]) : OpS P B W o st KE := by
  obtain ⟨ht, hes', heb⟩ := slice_t hy hk
  obtain ⟨hzv, hzf⟩ := cstT_eq hzt
  have htl : tz.length = es := Nat.eq_of_beq_eq_true hes
  have hpos : es ≠ 0 := Nat.ne_of_beq_eq_false hpos
  have hu : ∀ x ∈ List.replicate l.toNat tz, x.length = P.cellsOf e := fun x hx => by rw [List.eq_of_mem_replicate hx, hes', htl]
  refine OpS.newrow (ks := []) hep (fun x e h => by cases h) hu (fun hf x hx => ?_) hK fun a w pl F hs => ?_
  · obtain ⟨q, hq, hx⟩ := List.mem_flatten.1 hx
    rw [List.eq_of_mem_replicate hq] at hx
    rw [← hfl] at hf
    exact List.all_eq_true.1 hf x hx
  obtain ⟨de, i, hue, hi, _, hsz, hby, hzero⟩ := tinfo_parts hye
  have hsi : i.size = es := by rw [← hes']; simp [Program.cellsOf, hi]
  have hbi : i.bytes = eb := by rw [← hby, hyb]
  rw [hz] at hzero
  obtain ⟨z, hz1, hz2⟩ := Option.map_eq_some_iff.1 hzero.symm
  have hzs : z.cells.toList.length = es := by rw [← htl, ← List.length_map (as := tz) V.t, ← hzv, ← hz2]; simp
  have hzs' : z.cells.size = es := by simpa using hzs
  have hpz : Pw (Rd P w (Free B W.o (look st.objs) F w)) tz z.cells.toList := by
    refine ⟨by rw [hzs, htl], fun k x u hx hu => ?_⟩
    have h1 : (z.cells.toList.map constV)[k]? = some (V.t x) := by rw [hz2, hzv, List.getElem?_map, hx]; rfl
    rw [List.getElem?_map, hu] at h1
    have h2 : constV u = V.t x := by simpa using h1
    have h3 := constV_ok (P := P) (w := w) (lk := look st.objs) (pl := pl) (Fr := Free B W.o (look st.objs) F w) u
    rw [h2] at h3
    exact h3
  have hn : l.toNat ≤ c.toNat := by omega
  have hle : l.toNat * es ≤ c.toNat * es := Nat.mul_le_mul_right _ hn
  have htake : ((madeCells z.cells (c.toNat * i.size)).toList.take (l.toNat * es)) = (List.replicate l.toNat z.cells.toList).flatten := by
    apply List.ext_getElem?
    intro k
    rw [List.getElem?_take]
    split
    · rename_i hk
      rw [madeCells_at _ _ _ (by rw [hsi]; omega) (by omega), replicate_at _ _ _ (by rw [hzs]; exact hk), hzs, hzs']
    · rename_i hk
      symm
      rw [List.getElem?_eq_none]
      rw [flatten_len (s := es) (fun x hx => by rw [List.eq_of_mem_replicate hx, hzs])]
      simpa using hk
  refine ⟨(List.replicate l.toNat z.cells.toList).flatten, .slice (some ⟨w.heap.size, 0, none⟩) l.toNat c.toNat, w.alloc (.cells (madeCells z.cells (c.toNat * i.size)) e), ?_, below_alloc w _, ?_, fun b hb => (by cases hb; simp), ?_⟩
  · unfold execOp
    rw [ho]
    refine exec_value ?_
    rw [(hs.int_at hl).1, (hs.int_at hc).1]
    exact run_make w t e i z ht hi hz1 kl kc l c hlc.1 hlc.2.1 (by rw [hbi]; exact hlc.2.2.1) hlc.2.2.2
  · rw [List.length_replicate, hes']
    refine ⟨by rw [flatten_len (s := es) (fun x hx => by rw [List.eq_of_mem_replicate hx, hzs])]; simp, .inr ⟨w.heap.size, 0, c.toNat, _, (0, 0), rfl, heap_alloc_new w _, .inl rfl, hn, by simp only [maxLen]; omega, by rw [size_madeCells, hsi]; simp, by simpa using htake⟩⟩
  · refine cv_cst ?_ (fun x hx => ?_) true
    · refine ⟨?_, fun k x u hx hu => ?_⟩
      · rw [flatten_len (s := es) (fun x hx => by rw [List.eq_of_mem_replicate hx, hzs]), flatten_len (s := es) (fun x hx => by rw [List.eq_of_mem_replicate hx, htl])]; simp
      · have hk : k < l.toNat * es := by
          have := (List.getElem?_eq_some_iff.1 hx).1
          rw [flatten_len (s := es) (fun x hx => by rw [List.eq_of_mem_replicate hx, htl])] at this
          simpa using this
        rw [replicate_at _ _ _ (by rw [htl]; exact hk)] at hx
        rw [replicate_at _ _ _ (by rw [hzs]; exact hk), hzs, ← htl] at hu
        exact hpz.2 _ x u hx hu
    · obtain ⟨q, hq, hx⟩ := List.mem_flatten.1 hx
      rw [List.eq_of_mem_replicate hq] at hx
      exact hzf x hx
end

/-! ### Calls whose fresh results become objects -/
def isFr : V → Bool
  | .fr _ _ _ => true
  | _ => false
def isAgg : V → Bool
  | .agg _ => true
  | _ => false
inductive ImpL (lk : Nat → Option (Nat × Ob)) : Nat → List V → List V → List (Nat × Nat × Ob) → Prop
  | nil {id} : ImpL lk id [] [] []
  | fr {id fl e els ep r r' us} : nep (lk id) = ep → ImpL lk (id + 1) r r' us → ImpL lk id (.fr fl e els :: r) (.hnd id ep :: r') ((id, ep, .row fl true e els) :: us)
  | other {id v r r' us} : isFr v = false → ImpL lk (id + 1) r r' us → ImpL lk id (v :: r) (v :: r') us
inductive ImpT (lk : Nat → Option (Nat × Ob)) : Nat → List V → List V → List (Nat × Nat × Ob) → Prop
  | nil {id} : ImpT lk id [] [] []
  | agg {id cs cs' us1 r r' us} : ImpL lk id cs cs' us1 → ImpT lk (id + 64) r r' us → ImpT lk id (.agg cs :: r) (.agg cs' :: r') (us1 ++ us)
  | fr {id fl e els ep r r' us} : nep (lk id) = ep → ImpT lk (id + 64) r r' us → ImpT lk id (.fr fl e els :: r) (.hnd id ep :: r') ((id, ep, .row fl true e els) :: us)
  | other {id v r r' us} : isFr v = false → isAgg v = false → ImpT lk (id + 64) r r' us → ImpT lk id (v :: r) (v :: r') us
theorem ImpL.eq {lk : Nat → Option (Nat × Ob)} {id : Nat} {cs cs' : List V} {us : List (Nat × Nat × Ob)} (h : ImpL lk id cs cs' us) : impL false lk id cs = cs' ∧ updL false lk id cs = us := by
  induction h with
  | nil => exact ⟨rfl, rfl⟩
  | fr h1 _ ih => subst h1; exact ⟨by rw [← ih.1]; rfl, by rw [← ih.2]; rfl⟩
  | @other id v r r' us h1 _ ih =>
    have e1 : imp0 false lk id v = v := by cases v <;> first | rfl | cases h1
    have e2 : upd0 false lk id v = [] := by cases v <;> first | rfl | cases h1
    exact ⟨by show imp0 false lk id v :: _ = _; rw [e1, ih.1], by show upd0 false lk id v ++ _ = _; rw [e2, ih.2]; rfl⟩
theorem ImpT.eq {lk : Nat → Option (Nat × Ob)} {id : Nat} {cs cs' : List V} {us : List (Nat × Nat × Ob)} (h : ImpT lk id cs cs' us) : imp1L false lk id cs = cs' ∧ upd1L false lk id cs = us := by
  induction h with
  | nil => exact ⟨rfl, rfl⟩
  | @agg id cs cs' us1 r r' us h1 _ ih => exact ⟨by show V.agg (impL false lk id cs) :: _ = _; rw [h1.eq.1, ih.1], by show updL false lk id cs ++ _ = _; rw [h1.eq.2, ih.2]⟩
  | fr h1 _ ih => subst h1; exact ⟨by rw [← ih.1]; rfl, by rw [← ih.2]; rfl⟩
  | @other id v r r' us h1 h2 _ ih =>
    have e1 : imp1 false lk id v = v := by cases v <;> first | rfl | exact Bool.noConfusion (show true = false from h1) | exact Bool.noConfusion (show true = false from h2)
    have e2 : upd1 false lk id v = [] := by cases v <;> first | rfl | exact Bool.noConfusion (show true = false from h1) | exact Bool.noConfusion (show true = false from h2)
    exact ⟨by show imp1 false lk id v :: _ = _; rw [e1, ih.1], by show upd1 false lk id v ++ _ = _; rw [e2, ih.2]; rfl⟩
section
variable {P : Program} {B : Nat → Prop} {W : En} {o : Oper} {st : St} {KE : V → List (Nat × Nat × Ob) → Prop}
theorem OpS.call_fr {c : Call} {g : FuncId} {xs : List V} {d ep e : Nat} {fl : Bool} {els : List (List T)} (ho : o.op = .call c) (hd : o.dst = some d) (hc : c.callee = .value (.func g)) (hA : AC P g xs (.fr fl e els))
    (hs : SeeA (look st.objs) (c.args.toList.map st.ev) xs) (hp : (c.args.toList.map st.ev).all plain1 = true ∨ pureR (.fr fl e els) = true) (hep : nep (look st.objs (1000 * d)) = ep) (hK : KE (.hnd (1000 * d) ep) [(1000 * d, ep, .row fl true e els)]) : OpS P B W o st KE :=
  OpS.call_new ho hd hc hA hs hp.symm rfl rfl rfl (by subst hep; exact hK)
theorem OpS.call_agg {c : Call} {g : FuncId} {xs : List V} {d : Nat} {cs cs' : List V} {us : List (Nat × Nat × Ob)} (ho : o.op = .call c) (hd : o.dst = some d) (hc : c.callee = .value (.func g)) (hA : AC P g xs (.agg cs))
    (hs : SeeA (look st.objs) (c.args.toList.map st.ev) xs) (hp : (c.args.toList.map st.ev).all plain1 = true ∨ pureR (.agg cs) = true) (hsm : small2 (.agg cs) = true) (hi : ImpL (look st.objs) (1000 * d) cs cs' us) (hK : KE (.agg cs') us) : OpS P B W o st KE :=
  OpS.call_new ho hd hc hA hs hp.symm hsm (congrArg V.agg hi.eq.1) hi.eq.2 hK
theorem OpS.call_tup {c : Call} {g : FuncId} {xs : List V} {d : Nat} {cs cs' : List V} {us : List (Nat × Nat × Ob)} (ho : o.op = .call c) (hd : o.dst = some d) (hc : c.callee = .value (.func g)) (hA : AC P g xs (.tup cs))
    (hs : SeeA (look st.objs) (c.args.toList.map st.ev) xs) (hp : (c.args.toList.map st.ev).all plain1 = true ∨ pureR (.tup cs) = true) (hsm : small2 (.tup cs) = true) (hi : ImpT (look st.objs) (1000 * d) cs cs' us) (hK : KE (.tup cs') us) : OpS P B W o st KE :=
  OpS.call_new ho hd hc hA hs hp.symm hsm (congrArg V.tup hi.eq.1) hi.eq.2 hK
end

/-! ### Contracts out of plain calls -/
def V.cv : V → Option Value
  | .t (.int k n) => some (.int k n)
  | .t (.bool b) => some (.bool b)
  | .t (.str s) => some (.string (bs s))
  | _ => none
def cvL : List V → Option (List Value)
  | [] => some []
  | v :: r => match v.cv, cvL r with | some u, some us => some (u :: us) | _, _ => none
def V.cv1 : V → Option Value
  | .agg cs => match cvL cs with | some us => some (.agg us.toArray) | none => none
  | v => v.cv
def cv1L : List V → Option (List Value)
  | [] => some []
  | v :: r => match v.cv1, cv1L r with | some u, some us => some (u :: us) | _, _ => none
section
variable {P : Program} {w : World} {lk : Nat → Option (Nat × Ob)} {pl : Nat → Value} {Fr : Nat → Prop}
end
end Go.Proofs.Ytmkpgcahmbancaa.Ab
namespace Go.Proofs.Ytmkpgcahmbancaa.Ab
set_option linter.unusedSimpArgs false
set_option linter.unusedVariables false
open Go.RowKit

/-! ### The contract -/
def MSet (objs : List (Nat × Nat × Ob)) (F : Nat → Nat → Prop) (b : Nat) : Prop := ∃ o x, look objs o = some x ∧ F o b
/-- Objects as they lie in a world, with blocks B to read. -/
structure Env0 (P : Program) (w : World) (B : Nat → Prop) (objs : List (Nat × Nat × Ob)) (pl : Nat → Value) (F : Nat → Nat → Prop) : Prop where
  obs : ∀ o ep ob, look objs o = some (ep, ob) → ObR P w (C0 P w (look objs) pl (Free B (fun _ => False) (look objs) F w)) (Rd P w (Free B (fun _ => False) (look objs) F w)) (pl o) (F o) ob
  range : ∀ o x b, look objs o = some x → F o b → b < w.heap.size
  apart : ∀ o o' x x' b, o ≠ o' → look objs o = some x → look objs o' = some x' → F o b → ¬ F o' b
/-- The blocks to read when such a function has ended. -/
def FrM (B O : Nat → Prop) (w' : World) (lk : Nat → Option (Nat × Ob)) (F' : Nat → Nat → Prop) (FF : Nat → Nat → Nat → Prop) (b : Nat) : Prop :=
  (B b ∨ O b) ∧ b < w'.heap.size ∧ (∀ o x, lk o = some x → ¬ F' o b) ∧ ∀ j k, ¬ FF j k b
/-- A result: an object that goes back, or as ever. -/
def isOwnV : V → Bool
  | .hnd .. | .ptr .. | .view .. => true
  | _ => false
def R2m (P : Program) (w : World) (lk : Nat → Option (Nat × Ob)) (pl : Nat → Value) (Fr : Nat → Prop) (FF : Nat → Nat → Nat → Prop) (r : V) (u : Value) : Prop := if isOwnV r = true then C0 P w lk pl Fr r u else R2 P w Fr FF r u
structure MEnd (P : Program) (B O : Nat → Prop) (w' : World) (objs objs' : List (Nat × Nat × Ob)) (pl pl' : Nat → Value) (F' : Nat → Nat → Prop) (FF : Nat → Nat → Nat → Prop) (r : V) (u : Value) : Prop where
  lks : ∀ o ob, look objs o = some (0, ob) → ∃ ep' ob', look objs' o = some (ep', ob') ∧ (0 < ep' ∨ (0 = ep' ∧ pl' o = pl o ∧ ob'.isRow = ob.isRow ∧ esz P ob' = esz P ob))
  obs : ∀ o ep ob, look objs' o = some (ep, ob) → ObR P w' (C0 P w' (look objs') pl' (FrM B O w' (look objs') F' FF)) (Rd P w' (FrM B O w' (look objs') F' FF)) (pl' o) (F' o) ob
  res : R2m P w' (look objs') pl' (FrM B O w' (look objs') F' FF) FF r u
  range : ∀ o x b, look objs' o = some x → F' o b → O b ∧ b < w'.heap.size
  rangeF : ∀ j k b, FF j k b → O b ∧ b < w'.heap.size
  apart : ∀ o o' x x' b, o ≠ o' → look objs' o = some x → look objs' o' = some x' → F' o b → ¬ F' o' b
  apartF : ∀ j k j' k' b, (j ≠ j' ∨ k ≠ k') → FF j k b → ¬ FF j' k' b
  apartM : ∀ o x j k b, look objs' o = some x → FF j k b → ¬ F' o b
/-- Called on as with the objects objs, f gives some R x and leaves the objects as O x, with Post x. -/
def AMP (P : Program) (f : FuncId) (objs : List (Nat × Nat × Ob)) (as : List V) {α : Type} (O : α → List (Nat × Nat × Ob)) (R : α → V) (Post : α → Prop) : Prop := Enters P f ∧ (objs.all fun x => Nat.beq x.2.1 0) = true ∧
  ∀ (w : World) (B : Nat → Prop) (args : List Value) (pl : Nat → Value) (F : Nat → Nat → Prop), (∀ b, B b → b < w.heap.size) → Env0 P w B objs pl F → Pw (C1 P w (look objs) pl (Free B (fun _ => False) (look objs) F w)) as args →
    Calls P f args.toArray w fun e w' => ∃ x u pl' F' FF, Post x ∧ e = .returned u ∧ Kp ⟨w, MSet objs F, objs, pl⟩ w w' ∧ MEnd P B (En.o ⟨w, MSet objs F, objs, pl⟩) w' objs (O x) pl pl' F' FF (R x) u
/-- Called on as with the objects objs, f gives r and leaves the objects as objs'. -/
def AM (P : Program) (f : FuncId) (objs : List (Nat × Nat × Ob)) (as : List V) (objs' : List (Nat × Nat × Ob)) (r : V) : Prop := AMP P f objs as (α := Unit) (fun _ => objs') (fun _ => r) fun _ => True
def idsL (objs : List (Nat × Nat × Ob)) : List Nat := objs.map (·.1)
/-- The end of such a function. -/
def DoneM (P : Program) (rl : List ResultVar) (objs objs' : List (Nat × Nat × Ob)) (r : V) (e : Exit) (st : St) : Prop := (e = .normal ∨ e = .ret) ∧ ∃ v, resV P st rl = some v ∧ (∀ vs, resL P st rl = some vs → vs.all asBox = true) ∧
  ((isOwnV r = true ∧ v = r ∧ ((ids0 r).all fun o => (idsL objs').contains o) = true) ∨ (isOwnV r = false ∧ Giv2 (look st.objs) v r ∧ (ids2 v).Nodup ∧ ((ids2 v).all fun o => !(idsL objs').contains o) = true)) ∧
  leO st.objs objs' ∧ ((objs'.flatMap fun p => idsOb p.2.2).all fun o => (idsL objs').contains o) = true ∧ ((idsL objs).all fun o => (idsL objs').contains o) = true
def DoneP (P : Program) (rl : List ResultVar) (objs : List (Nat × Nat × Ob)) {α : Type} (O : α → List (Nat × Nat × Ob)) (R : α → V) (Post : α → Prop) (e : Exit) (st : St) : Prop := ∃ x, Post x ∧ DoneM P rl objs (O x) (R x) e st
theorem look_ids : ∀ {l : List (Nat × Nat × Ob)} {o : Nat} {x : Nat × Ob}, look l o = some x → o ∈ idsL l := fun h => List.mem_map.2 ⟨_, look_mem h, rfl⟩
theorem zero_ep {objs : List (Nat × Nat × Ob)} (h : (objs.all fun x => Nat.beq x.2.1 0) = true) {o ep : Nat} {ob : Ob} (hl : look objs o = some (ep, ob)) : ep = 0 :=
  Nat.eq_of_beq_eq_true (List.all_eq_true.1 h _ (look_mem hl))
section
variable {P : Program}
theorem DoneM.intro {rl : List ResultVar} {objs objs' : List (Nat × Nat × Ob)} {r v : V} {e : Exit} {st : St} {vs : List V} (he : e = .normal ∨ e = .ret) (hL : resL P st rl = some vs) (hb : vs.all asBox = true) (hv : vOf vs = v)
    (ho : leO st.objs objs') (h2 : ((objs'.flatMap fun p => idsOb p.2.2).all fun o => (idsL objs').contains o) = true) (h3 : ((idsL objs).all fun o => (idsL objs').contains o) = true)
    (hg : (isOwnV r = true ∧ v = r ∧ ((ids0 r).all fun o => (idsL objs').contains o) = true) ∨ (isOwnV r = false ∧ Giv2 (look st.objs) v r ∧ (ids2 v).Nodup ∧ ((ids2 v).all fun o => !(idsL objs').contains o) = true)) : DoneM P rl objs objs' r e st := by
  refine ⟨he, v, ?_, fun vs' h => (by rw [hL] at h; cases h; exact hb), hg, ho, h2, h3⟩
  unfold resV
  rw [hL]
  subst hv
  match vs with
  | [] => rfl
  | [v] => rfl
  | _ :: _ :: _ => rfl
theorem AMP.body {f : FuncId} {fn : Func} {c : Code} {as : List V} {objs : List (Nat × Nat × Ob)} {α : Type} {O : α → List (Nat × Nat × Ob)} {R : α → V} {Post : α → Prop} (hf : P.funcs[f]? = some fn) (hb : fn.body = some c) (hn : (fn.name == "runtime.NumGoroutine") = false) {rl : List ResultVar} (hrl : fn.results = rl.toArray) {n : Nat} (hnt : fn.ntmps = n) (hnn : as.length ≤ n) (h0 : (objs.all fun x => Nat.beq x.2.1 0) = true)
    (h : ∀ B (W : En), (∃ pl Fr us, Pw (C1 P W.toWorld (look objs) pl Fr) as us) → aW P B W c (DoneP P rl objs O R Post) ⟨n, argT 0 as, objs⟩) : AMP P f objs as O R Post := by
  refine ⟨⟨fn, hf, by rw [hb]; rfl, hn⟩, h0, fun w B args pl F hB hE hargs => ?_⟩
  refine calls_of_wp hf hb ?_
  have hfree : ∀ b, Free B (fun _ => False) (look objs) F w b → Free B (En.o ⟨w, MSet objs F, objs, pl⟩) (look objs) F w b := fun b hb => ⟨hb.1.imp id False.elim, hb.2⟩
  have hs : Sim P B ⟨w, MSet objs F, objs, pl⟩ ⟨n, argT 0 as, objs⟩ { tmps := args.toArray ++ Array.replicate (fn.ntmps - args.toArray.size) undef, defers := [] } w := by
    refine ⟨pl, F, hB, ?_, rfl, Kp.refl _ _, fun i hv => ?_, fun o ep ob ho => ?_, fun o x b ho hb => ⟨.inr ⟨o, x, ho, hb⟩, hE.range o x b ho hb⟩, hE.apart, fun o ob0 h0 ep ob ho => ?_⟩
    · simp [hargs.1, hnt]; omega
    · show C2 _ _ _ _ _ (lookT (argT 0 as) i) ((args.toArray ++ Array.replicate (fn.ntmps - args.toArray.size) undef).getD i undef)
      rw [lookT_arg]
      by_cases hi : i < as.length
      · obtain ⟨u, hu, hc⟩ := hargs.at_ (List.getElem?_eq_getElem hi)
        have e : (args.toArray ++ Array.replicate (fn.ntmps - args.toArray.size) undef).getD i undef = u := by
          rw [Array.getD_eq_getD_getElem?, Array.getElem?_append_left (by simp [hargs.1, hi])]
          simp [hu]
        rw [e, Nat.sub_zero, List.getElem?_eq_getElem hi]
        exact (hc.weak hfree fun o _ => rfl).c2
      · rw [List.getElem?_eq_none (by omega)]
        split <;> trivial
    · exact (hE.obs o ep ob ho).goes (fun _ _ => rfl) (fun x u hc => hc.weak hfree fun o _ => rfl) (fun x u hr => hr.mono hfree fun _ _ => rfl)
    · have h1 : look objs o = some (0, ob0) := h0
      have h2 : look objs o = some (ep, ob) := ho
      rw [h1] at h2
      cases h2
      exact .inr ⟨rfl, rfl, rfl⟩
  refine wp_mono (h B ⟨w, MSet objs F, objs, pl⟩ ⟨pl, _, args, hargs⟩ _ _ hs) ?_
  rintro e a' w' ⟨st', ⟨pl', F', hs'⟩, x, hx, he, v, h1, h4, h2, h5, h7, h8⟩
  obtain ⟨u, g1, g2⟩ := hs'.rV hrl h1 h4
  have hsub : ∀ o y, look (O x) o = some y → look st'.objs o = some y := leO_at h5
  have hE' : Kp ⟨w, MSet objs F, objs, pl⟩ w w' ∧ ∃ FF, MEnd P B (En.o ⟨w, MSet objs F, objs, pl⟩) w' objs (O x) pl pl' F' FF (R x) u := by
    have key : ∀ FF : Nat → Nat → Nat → Prop, (∀ j k b, FF j k b → ∃ o x, look st'.objs o = some x ∧ F' o b) → (∀ j k b, FF j k b → En.o ⟨w, MSet objs F, objs, pl⟩ b ∧ b < w'.heap.size) → (∀ j k j' k' b, (j ≠ j' ∨ k ≠ k') → FF j k b → ¬ FF j' k' b) →
        (∀ o y j k b, look (O x) o = some y → FF j k b → ¬ F' o b) → R2m P w' (look (O x)) pl' (FrM B (En.o ⟨w, MSet objs F, objs, pl⟩) w' (look (O x)) F' FF) FF (R x) u → MEnd P B (En.o ⟨w, MSet objs F, objs, pl⟩) w' objs (O x) pl pl' F' FF (R x) u := fun FF k5 k2 k3 k4 hres => by
      have hFr : ∀ b, Free B (En.o ⟨w, MSet objs F, objs, pl⟩) (look st'.objs) F' w' b → FrM B (En.o ⟨w, MSet objs F, objs, pl⟩) w' (look (O x)) F' FF b := fun b hb => by
        refine ⟨hb.1, hb.2.1, fun o y ho => hb.2.2 o y (hsub o y ho), fun j k hf => ?_⟩
        obtain ⟨o, y, hx, hF⟩ := k5 j k b hf
        exact hb.2.2 o y hx hF
      refine ⟨fun o ob ho => ?_, fun o ep ob ho => ?_, hres, fun o y b ho hb => hs'.range o y b (hsub o y ho) hb, k2, fun o o' y y' b hne ho ho' => hs'.apart o o' y y' b hne (hsub o y ho) (hsub o' y' ho'), k3, k4⟩
      · have hm := List.contains_iff_mem.1 (List.all_eq_true.1 h8 o (look_ids ho))
        obtain ⟨⟨ep', ob'⟩, hx⟩ := look_has (List.contains_iff_mem.2 hm)
        refine ⟨ep', ob', hx, ?_⟩
        rcases hs'.hist o ob ho ep' ob' (hsub o _ hx) with h9 | h9
        · exact .inl h9
        · exact (Nat.eq_zero_or_pos ep').elim (fun h => .inr ⟨h.symm, h9⟩) .inl
      · refine (hs'.objs o ep ob (hsub o _ ho)).goes_weak (fun y u hx hc => hc.weak hFr fun i hi => ?_) (fun y u hr => hr.mono hFr fun _ _ => rfl)
        have hm : i ∈ (O x).flatMap fun p => idsOb p.2.2 := List.mem_flatMap.2 ⟨_, look_mem ho, hx i hi⟩
        obtain ⟨y, hy⟩ := look_has (List.all_eq_true.1 h7 i hm)
        rw [hy, hsub i y hy]
    refine ⟨hs'.below, ?_⟩
    rcases h2 with ⟨q1, q2, q3⟩ | ⟨q1, q2, q3, q4⟩
    · subst q2
      have hfr : ∀ b, Free B (En.o ⟨w, MSet objs F, objs, pl⟩) (look st'.objs) F' w' b → FrM B (En.o ⟨w, MSet objs F, objs, pl⟩) w' (look (O x)) F' (fun _ _ _ => False) b := fun b hb => ⟨hb.1, hb.2.1, fun o y ho => hb.2.2 o y (hsub o y ho), fun _ _ h => h⟩
      refine ⟨fun _ _ _ => False, key _ (fun _ _ _ h => h.elim) (fun _ _ _ h => h.elim) (fun _ _ _ _ _ _ h => h.elim) (fun _ _ _ _ _ _ h => h.elim) ?_⟩
      unfold R2m
      rw [if_pos q1]
      have g3 : C0 P w' (look st'.objs) pl' (Free B (En.o ⟨w, MSet objs F, objs, pl⟩) (look st'.objs) F' w') (R x) u := by
        revert q1 g2
        cases R x <;> first | (intro _ h; exact h) | (intro h; cases h)
      refine g3.weak hfr fun o ho => ?_
      obtain ⟨y, hy⟩ := look_has (List.all_eq_true.1 q3 o ho)
      rw [hy, hsub o y hy]
    · have hnot : ∀ o, o ∈ ids2 v → ¬ ∃ y, look (O x) o = some y := fun o ho ⟨y, hy⟩ => by
        have := List.all_eq_true.1 q4 o ho
        have h9 : (idsL (O x)).contains o = true := List.contains_iff_mem.2 (look_ids hy)
        rw [h9] at this
        cases this
      obtain ⟨FF, k1, k2, k3, k4, k5⟩ := hs'.giv_x g2 q2 q3 (X := fun o => ∃ y, look (O x) o = some y) hnot
      have e1 : (fun b => (B b ∨ En.o ⟨w, MSet objs F, objs, pl⟩ b) ∧ b < w'.heap.size ∧ (∀ o y, (∃ y, look (O x) o = some y) → look st'.objs o = some y → ¬ F' o b) ∧ ∀ j k, ¬ FF j k b) = FrM B (En.o ⟨w, MSet objs F, objs, pl⟩) w' (look (O x)) F' FF := by
        funext b
        refine propext ⟨fun h => ⟨h.1, h.2.1, fun o y ho => h.2.2.1 o y ⟨y, ho⟩ (hsub o y ho), h.2.2.2⟩, fun h => ⟨h.1, h.2.1, fun o z ⟨y, hy⟩ _ => h.2.2.1 o y hy, h.2.2.2⟩⟩
      refine ⟨FF, key FF k5 k2 k3 (fun o y j k b ho hb => k4 o y j k b ⟨y, ho⟩ (hsub o y ho) hb) ?_⟩
      unfold R2m
      rw [if_neg (by rw [q1]; decide), ← e1]
      exact k1
  obtain ⟨hK', FF, hM⟩ := hE'
  rcases he with rfl | rfl
  · exact ⟨hs'.defers, u, g1, x, u, pl', F', FF, hx, rfl, hK', hM⟩
  · exact ⟨hs'.defers, u, g1, x, u, pl', F', FF, hx, rfl, hK', hM⟩
theorem AM.body {f : FuncId} {fn : Func} {c : Code} {as : List V} {objs objs' : List (Nat × Nat × Ob)} {r : V} (hf : P.funcs[f]? = some fn) (hb : fn.body = some c) (hn : (fn.name == "runtime.NumGoroutine") = false) {rl : List ResultVar} (hrl : fn.results = rl.toArray) {n : Nat} (hnt : fn.ntmps = n) (hnn : as.length ≤ n) (h0 : (objs.all fun x => Nat.beq x.2.1 0) = true)
    (h : ∀ B (W : En), (∃ pl Fr us, Pw (C1 P W.toWorld (look objs) pl Fr) as us) → aW P B W c (DoneM P rl objs objs' r) ⟨n, argT 0 as, objs⟩) : AM P f objs as objs' r :=
  AMP.body hf hb hn hrl hnt hnn h0 fun B W hr => (h B W hr).mono fun e st hd => ⟨(), trivial, hd⟩
/-! ### Renaming -/
/-- How a caller names the objects: of each of the callee's, the caller's number and by what its epoch is ahead. -/
def ren (m : List (Nat × Nat × Nat)) (o : Nat) : Nat × Nat := match m with | [] => (o, 0) | (i, j, d) :: r => match Nat.beq i o with | true => (j, d) | false => ren r o
def renV0 (m : List (Nat × Nat × Nat)) : V → V
  | .hnd o ep => .hnd (ren m o).1 ((ren m o).2 + ep)
  | .ptr o ep i off => .ptr (ren m o).1 ((ren m o).2 + ep) i off
  | .view o ep i n => .view (ren m o).1 ((ren m o).2 + ep) i n
  | v => v
def renVL (m : List (Nat × Nat × Nat)) : List V → List V
  | [] => []
  | v :: r => renV0 m v :: renVL m r
theorem renVL_at (m : List (Nat × Nat × Nat)) : ∀ (cs : List V) (k : Nat), (renVL m cs)[k]? = (cs[k]?).map (renV0 m)
  | [], k => by simp [renVL]
  | v :: r, 0 => by simp [renVL]
  | v :: r, k + 1 => by simp [renVL, renVL_at m r k]
theorem renVL_len (m : List (Nat × Nat × Nat)) : ∀ (cs : List V), (renVL m cs).length = cs.length
  | [] => rfl
  | v :: r => by simp [renVL, renVL_len m r]
def renOb (m : List (Nat × Nat × Nat)) : Ob → Ob
  | .box ty cs => .box ty (renVL m cs)
  | .hole e els q x => .hole e els q (renV0 m x)
  | .row fl d e els => .row fl d e els
  | .gone => .gone
theorem renOb_row (m : List (Nat × Nat × Nat)) (ob : Ob) : (renOb m ob).isRow = ob.isRow ∧ esz P (renOb m ob) = esz P ob := by cases ob <;> exact ⟨rfl, rfl⟩
def renO (m : List (Nat × Nat × Nat)) : List (Nat × Nat × Ob) → List (Nat × Nat × Ob)
  | [] => []
  | (o, e, b) :: r => ((ren m o).1, (ren m o).2 + e, renOb m b) :: renO m r
theorem mem_renO {m : List (Nat × Nat × Nat)} : ∀ {l : List (Nat × Nat × Ob)} {i e : Nat} {b : Ob}, (i, e, b) ∈ renO m l ↔ ∃ o e0 b0, (o, e0, b0) ∈ l ∧ i = (ren m o).1 ∧ e = (ren m o).2 + e0 ∧ b = renOb m b0
  | [], i, e, b => by simp [renO]
  | (o, e0, b0) :: r, i, e, b => by
    unfold renO
    rw [List.mem_cons, mem_renO]
    constructor
    · rintro (h | ⟨o', e', b', h, h'⟩)
      · cases h; exact ⟨o, e0, b0, by simp, rfl, rfl, rfl⟩
      · exact ⟨o', e', b', by simp [h], h'⟩
    · rintro ⟨o', e', b', h, rfl, rfl, rfl⟩
      rcases List.mem_cons.1 h with h | h
      · cases h; exact .inl rfl
      · exact .inr ⟨o', e', b', h, rfl, rfl, rfl⟩
section
variable {w w' : World} {m : List (Nat × Nat × Nat)} {lk lk' lkc : Nat → Option (Nat × Ob)} {pl pl' plc : Nat → Value} {Fr Fr' : Nat → Prop}
/-- What holds in the callee's names holds in the caller's. -/
theorem C0.renm {v : V} {u : Value} (hl : ∀ o ep ob, lkc o = some (ep, ob) → lk (ren m o).1 = some ((ren m o).2 + ep, renOb m ob) ∧ pl (ren m o).1 = plc o) (hT : ∀ y, v = .t y → Rd P w Fr' y u → Rd P w Fr y u) (hR : ∀ cs off, v = .rptr cs off → ∀ b, Fr' b → Fr b)
    (h : C0 P w lkc plc Fr' v u) : C0 P w lk pl Fr (renV0 m v) u := by
  cases v with
  | t x => exact hT x rfl h
  | hnd o ep =>
    obtain ⟨h1, ep', ob, h2, h3, h4⟩ := h
    obtain ⟨g1, g2⟩ := hl o ep' ob h2
    refine ⟨h1, _, _, g1, by omega, fun e => ?_⟩
    obtain ⟨h5, h6⟩ := h4 (by omega)
    exact ⟨(renOb_row (P := P) m ob).1.trans h5, h6.trans g2.symm⟩
  | ptr o ep i off =>
    obtain ⟨h1, ep', ob, h2, h3, h4⟩ := h
    obtain ⟨g1, g2⟩ := hl o ep' ob h2
    refine ⟨h1, _, _, g1, by omega, fun e => ?_⟩
    obtain ⟨g, b, h5, h6⟩ := h4 (by omega)
    exact ⟨g, b, by rw [g2]; exact h5, by rw [(renOb_row m ob).2]; exact h6⟩
  | view o ep i n =>
    obtain ⟨h1, ep', ob, h2, h3, h4⟩ := h
    obtain ⟨g1, g2⟩ := hl o ep' ob h2
    refine ⟨h1, _, _, g1, by omega, fun e => ?_⟩
    obtain ⟨h5, A, c, h6, h7, h8, h9⟩ := h4 (by omega)
    refine ⟨(renOb_row (P := P) m ob).1.trans h5, A, c, h6, h7, h8, fun hn => ?_⟩
    obtain ⟨g, b, h10, h11⟩ := h9 hn
    exact ⟨g, b, by rw [g2]; exact h10, by rw [(renOb_row m ob).2]; exact h11⟩
  | rptr cs off =>
    obtain ⟨ad, h1, h2⟩ := h
    refine ⟨ad, h1, fun j x hx => ?_⟩
    obtain ⟨h3, y, h4, h5⟩ := h2 j x hx
    exact ⟨hR _ _ rfl _ h3, y, h4, h5.mono (hR _ _ rfl) fun _ _ => rfl⟩
  | lit => exact h
  | junk => trivial
  | agg => exact h
  | tup => exact h
  | fr => exact h
/-- And the other way, for objects that are as they were handed over. -/
theorem C0.unren {v : V} {u : Value} (hl : ∀ o, o ∈ ids0 v → ∃ ob, lkc o = some (0, ob) ∧ lk (ren m o).1 = some ((ren m o).2, renOb m ob) ∧ pl (ren m o).1 = plc o) (hF : ∀ b, Fr b → Fr' b)
    (h : C0 P w lk pl Fr (renV0 m v) u) : C0 P w lkc plc Fr' v u := by
  cases v with
  | t x => exact Rd.mono h hF fun _ _ => rfl
  | hnd o ep =>
    obtain ⟨h1, ep', ob', h2, h3, h4⟩ := h
    obtain ⟨ob, g1, g2, g3⟩ := hl o (by simp [ids0])
    rw [g2] at h2
    cases h2
    refine ⟨h1, _, _, g1, by omega, fun e => ?_⟩
    obtain ⟨h5, h6⟩ := h4 (by omega)
    exact ⟨(renOb_row (P := P) m ob).1.symm.trans h5, h6.trans g3⟩
  | ptr o ep i off =>
    obtain ⟨h1, ep', ob', h2, h3, h4⟩ := h
    obtain ⟨ob, g1, g2, g3⟩ := hl o (by simp [ids0])
    rw [g2] at h2
    cases h2
    refine ⟨h1, _, _, g1, by omega, fun e => ?_⟩
    obtain ⟨g, b, h5, h6⟩ := h4 (by omega)
    exact ⟨g, b, by rw [← g3]; exact h5, by rw [(renOb_row m ob).2] at h6; exact h6⟩
  | view o ep i n =>
    obtain ⟨h1, ep', ob', h2, h3, h4⟩ := h
    obtain ⟨ob, g1, g2, g3⟩ := hl o (by simp [ids0])
    rw [g2] at h2
    cases h2
    refine ⟨h1, _, _, g1, by omega, fun e => ?_⟩
    obtain ⟨h5, A, c, h6, h7, h8, h9⟩ := h4 (by omega)
    refine ⟨(renOb_row (P := P) m ob).1.symm.trans h5, A, c, h6, h7, h8, fun hn => ?_⟩
    obtain ⟨g, b, h10, h11⟩ := h9 hn
    exact ⟨g, b, by rw [← g3]; exact h10, by rw [(renOb_row m ob).2] at h11; exact h11⟩
  | rptr cs off =>
    obtain ⟨ad, h1, h2⟩ := h
    refine ⟨ad, h1, fun j x hx => ?_⟩
    obtain ⟨h3, y, h4, h5⟩ := h2 j x hx
    exact ⟨hF _ h3, y, h4, h5.mono hF fun _ _ => rfl⟩
  | lit => exact h
  | junk => trivial
  | agg => exact h
  | tup => exact h
  | fr => exact h
theorem ObR.unren {Rr Rr' : T → Value → Prop} {CC CC' : V → Value → Prop} {v : Value} {F : Nat → Prop} {ob : Ob} (hC : ∀ x u, (∀ i, i ∈ ids0 x → i ∈ idsOb ob) → CC (renV0 m x) u → CC' x u) (hR : ∀ x u, Rr x u → Rr' x u)
    (h : ObR P w CC Rr v F (renOb m ob)) : ObR P w CC' Rr' v F ob := by
  cases ob with
  | box ty cs =>
    obtain ⟨g, us, h1, h2, h3, h4, h5⟩ := h
    refine ⟨g, us, h1, h2, h3, by rw [h4, renVL_len], fun k x u hx hu => hC _ _ (fun i hi => List.mem_flatMap.2 ⟨x, List.mem_of_getElem? hx, hi⟩) (h5 k _ u (by rw [renVL_at, hx]; rfl) hu)⟩
  | row fl d e els =>
    rcases h with ⟨hd, h⟩ | ⟨hd, us, h1, h2, h3, h4, h5, h6⟩
    · exact .inl ⟨hd, h⟩
    · exact .inr ⟨hd, us, h1, h2, h3, h4, fun k x u hx hu => hR _ _ (h5 k x u hx hu), h6⟩
  | hole e els q x =>
    obtain ⟨us, fs, h1, h2, h3, h4, h5, h6⟩ := h
    exact ⟨us, fs, h1, h2, h3, h4, fun u hu => hC _ _ (fun i hi => hi) (h5 u hu), h6⟩
  | gone => exact h
theorem ObR.renm {Rr Rr' : T → Value → Prop} {CC CC' : V → Value → Prop} {v : Value} {F : Nat → Prop} {ob : Ob} (hC : ∀ x u, (match ob with | .box _ cs => x ∈ cs | .hole _ _ _ y => x = y | _ => False) → CC x u → CC' (renV0 m x) u) (hR : (match ob with | .row _ d _ _ => d = false | _ => False) → ∀ x u, Rr x u → Rr' x u)
    (h : ObR P w CC Rr v F ob) : ObR P w CC' Rr' v F (renOb m ob) := by
  cases ob with
  | box ty cs =>
    obtain ⟨g, us, h1, h2, h3, h4, h5⟩ := h
    refine ⟨g, us, h1, h2, h3, by rw [h4, renVL_len], fun k x u hx hu => ?_⟩
    rw [renVL_at, Option.map_eq_some_iff] at hx
    obtain ⟨y, hy, rfl⟩ := hx
    exact hC y u (List.mem_of_getElem? hy) (h5 k y u hy hu)
  | row fl d e els =>
    rcases h with ⟨hd, h⟩ | ⟨hd, us, h1, h2, h3, h4, h5, h6⟩
    · exact .inl ⟨hd, h⟩
    · exact .inr ⟨hd, us, h1, h2, h3, h4, fun k x u hx hu => hR hd _ _ (h5 k x u hx hu), h6⟩
  | hole e els q x =>
    obtain ⟨us, fs, h1, h2, h3, h4, h5, h6⟩ := h
    exact ⟨us, fs, h1, h2, h3, h4, fun u hu => hC _ _ rfl (h5 u hu), h6⟩
  | gone => exact h
end
end
end Go.Proofs.Ytmkpgcahmbancaa.Ab
namespace Go.Proofs.Ytmkpgcahmbancaa.Ab
set_option linter.unusedSimpArgs false
set_option linter.unusedVariables false
open Go.RowKit

/-- Several objects change or come into being at once. -/
theorem SimW.many {P : Program} {B : Nat → Prop} {W : En} {st : St} {a : Act} {w w' : World} {pl : Nat → Value} {F : Nat → Nat → Prop} (h : SimW P B W st a w pl F) {objs' : List (Nat × Nat × Ob)} {nv : Nat → Value} {nF : Nat → Nat → Prop} {Nw : Nat → Prop}
    (hw : Kp W w w') (hk : ∀ b, b < w.heap.size → (∀ i x, Nw i → look st.objs i = some x → ¬ F i b) → w'.heap[b]? = w.heap[b]?) (hl : ∀ i, ¬ Nw i → look objs' i = look st.objs i)
    (hn : ∀ i, Nw i → ∃ ep ob, look objs' i = some (ep, ob) ∧ (∀ ep0 ob0, look st.objs i = some (ep0, ob0) → ep0 < ep ∨ (ep0 = ep ∧ nv i = pl i ∧ ob.isRow = ob0.isRow ∧ esz P ob = esz P ob0)) ∧ (look st.objs i = none → 0 < ep))
    (hF : ∀ i b, Nw i → nF i b → b < w'.heap.size ∧ (w.heap.size ≤ b ∨ ∃ j x, Nw j ∧ look st.objs j = some x ∧ F j b)) (hd : ∀ i j b, Nw i → Nw j → i ≠ j → nF i b → ¬ nF j b)
    (hob : ∀ lk' pl' Fr', (∀ b, (Free B W.o (look st.objs) F w b ∨ w.heap.size ≤ b ∨ ∃ j x, Nw j ∧ look st.objs j = some x ∧ F j b) → b < w'.heap.size → (∀ i, Nw i → ¬ nF i b) → Fr' b) → (∀ i, Nw i → lk' i = look objs' i ∧ pl' i = nv i) →
      ∀ i ep ob, Nw i → look objs' i = some (ep, ob) → ObR P w' (C0 P w' lk' pl' Fr') (Rd P w' Fr') (nv i) (nF i) ob) :
    ∃ pl' F', SimW P B W { st with objs := objs' } a w' pl' F' ∧ (∀ i, Nw i → pl' i = nv i) ∧
      (∀ b, (Free B W.o (look st.objs) F w b ∨ w.heap.size ≤ b ∨ ∃ j x, Nw j ∧ look st.objs j = some x ∧ F j b) → b < w'.heap.size → (∀ i, Nw i → ¬ nF i b) → Free B W.o (look objs') F' w' b) ∧ Goes P w w' (look st.objs) (look objs') pl pl' (Free B W.o (look st.objs) F w) (Free B W.o (look objs') F' w') ∧ (∀ j, ¬ Nw j → F' j = F j) := by
  classical
  let pl' : Nat → Value := fun i => if Nw i then nv i else pl i
  let F' : Nat → Nat → Prop := fun i => if Nw i then nF i else F i
  have e1 : ∀ i, Nw i → F' i = nF i := fun i h => if_pos h
  have e2 : ∀ i, ¬ Nw i → F' i = F i := fun i h => if_neg h
  have hapN : ∀ i x b, ¬ Nw i → look st.objs i = some x → F i b → ¬ ∃ j x, Nw j ∧ look st.objs j = some x ∧ F j b := fun i x b hi hx hf ⟨j, y, hj, hy, hf'⟩ =>
    h.apart i j _ _ b (fun e => hi (by rw [e]; exact hj)) hx hy hf hf'
  have hfr : ∀ b, (Free B W.o (look st.objs) F w b ∨ w.heap.size ≤ b ∨ ∃ j x, Nw j ∧ look st.objs j = some x ∧ F j b) → b < w'.heap.size → (∀ i, Nw i → ¬ nF i b) → Free B W.o (look objs') F' w' b := fun b hb hlt hnb => by
    refine ⟨?_, hlt, fun i x hi hf => ?_⟩
    · rcases hb with hb | hb | ⟨j, x, hj, hx, hb⟩
      · exact hb.1
      · exact .inr (.inl (Nat.le_trans h.below.size hb))
      · exact .inr (h.range _ _ _ hx hb).1
    · by_cases hN : Nw i
      · rw [e1 i hN] at hf; exact hnb i hN hf
      · rw [e2 i hN] at hf
        rw [hl i hN] at hi
        rcases hb with hb | hb | hb
        · exact hb.2.2 _ _ hi hf
        · have := (h.range _ _ _ hi hf).2; omega
        · exact hapN i x b hN hi hf hb
  have g : Goes P w w' (look st.objs) (look objs') pl pl' (Free B W.o (look st.objs) F w) (Free B W.o (look objs') F' w') := by
    refine ⟨fun b hb => hfr b (.inl hb) (Nat.lt_of_lt_of_le hb.2.1 hw.size) fun i hi hf => ?_, fun b hb => hk b hb.2.1 fun i x _ hx hf => hb.2.2 i x hx hf, fun o ep ob ho => ?_⟩
    · rcases (hF i b hi hf).2 with h1 | ⟨j, x, _, hx, h1⟩
      · have := hb.2.1; omega
      · exact hb.2.2 j x hx h1
    · by_cases hN : Nw o
      · obtain ⟨ep', ob', h1, h2, _⟩ := hn o hN
        refine ⟨ep', ob', h1, ?_⟩
        rcases h2 _ _ ho with h3 | ⟨h3, h4, h5, h6⟩
        · exact .inl h3
        · exact .inr ⟨h3, (if_pos hN).trans h4, h5, h6⟩
      · exact ⟨ep, ob, (hl o hN).trans ho, .inr ⟨rfl, if_neg hN, rfl, rfl⟩⟩
  have hC := hob (look objs') pl' (Free B W.o (look objs') F' w') hfr fun i hi => ⟨rfl, if_pos hi⟩
  refine ⟨pl', F', ⟨h.old, h.size, h.defers, h.below.trans hw, fun i hi => (h.tmps i hi).goes g, fun o ep ob ho => ?_, fun o x b ho hf => ?_, fun o o' x x' b hne ho ho' hf hf' => ?_, fun o ob0 h0 ep ob ho => ?_⟩, fun i hi => if_pos hi, hfr, g, e2⟩
  · by_cases hN : Nw o
    · rw [e1 o hN, show pl' o = nv o from if_pos hN]
      exact hC o ep ob hN ho
    · have ho0 := ho
      rw [hl o hN] at ho0
      rw [e2 o hN, show pl' o = pl o from if_neg hN]
      exact (h.objs o ep ob ho0).goes (fun b hb => hk b (h.range o _ b ho0 hb).2 fun i x hi hx hf => hapN o _ b hN ho0 hb ⟨i, x, hi, hx, hf⟩) (fun _ _ hc => C0.goes g hc) (fun _ _ hr => hr.mono g.more g.heap)
  · by_cases hN : Nw o
    · rw [e1 o hN] at hf
      obtain ⟨h1, h2⟩ := hF o b hN hf
      refine ⟨?_, h1⟩
      rcases h2 with h2 | ⟨j, y, _, hy, h2⟩
      · exact .inl (Nat.le_trans h.below.size h2)
      · exact (h.range _ _ _ hy h2).1
    · rw [e2 o hN] at hf
      rw [hl o hN] at ho
      have := h.range _ _ _ ho hf
      exact ⟨this.1, Nat.lt_of_lt_of_le this.2 hw.size⟩
  · have key : ∀ i j x, Nw i → ¬ Nw j → look st.objs j = some x → nF i b → F j b → False := fun i j x hi hj hx hfi hfj => by
      rcases (hF i b hi hfi).2 with h1 | h1
      · have := (h.range _ _ _ hx hfj).2; omega
      · exact hapN j x b hj hx hfj h1
    by_cases hN : Nw o
    · rw [e1 o hN] at hf
      by_cases hN' : Nw o'
      · rw [e1 o' hN'] at hf'
        exact hd o o' b hN hN' hne hf hf'
      · rw [e2 o' hN'] at hf'
        rw [hl o' hN'] at ho'
        exact key o o' _ hN hN' ho' hf hf'
    · rw [e2 o hN] at hf
      rw [hl o hN] at ho
      by_cases hN' : Nw o'
      · rw [e1 o' hN'] at hf'
        exact key o' o _ hN' hN ho hf' hf
      · rw [e2 o' hN'] at hf'
        rw [hl o' hN'] at ho'
        exact h.apart _ _ _ _ b hne ho ho' hf hf'
  · by_cases hN : Nw o
    · obtain ⟨ep', ob', h1, h2, h3⟩ := hn o hN
      rw [h1] at ho
      cases ho
      cases hlo : look st.objs o with
      | none => exact .inl (h3 hlo)
      | some x =>
        obtain ⟨e0, b0⟩ := x
        rcases h2 _ _ hlo with h4 | ⟨h4, h5, h6, h7⟩
        · exact .inl (by omega)
        · rcases h.hist o ob0 h0 _ _ hlo with h8 | ⟨h8, h9, h10⟩
          · exact .inl (by omega)
          · exact .inr ⟨(if_pos hN).trans (h5.trans h8), h6.trans h9, h7.trans h10⟩
    · rw [hl o hN] at ho
      rcases h.hist o ob0 h0 ep ob ho with h5 | ⟨h5, h6⟩
      · exact .inl h5
      · exact .inr ⟨(if_neg hN).trans h5, h6⟩

/-! ### What is handed over -/
section
variable (m : List (Nat × Nat × Nat)) (lk : Nat → Option (Nat × Ob))
/-- A caller's value v and the callee's x: one of the objects that go over, or a thing that is read. -/
def SeeM0 (v x : V) : Prop := (isOwnV x = true ∧ v = renV0 m x) ∨ (isOwnV x = false ∧ See0 lk v x)
def SeeML : List V → List V → Prop
  | [], [] => True
  | c :: cs, d :: ds => SeeM0 m lk c d ∧ SeeML cs ds
  | _, _ => False
def SeeM1 : V → V → Prop
  | .agg cs, .agg ds => SeeML m lk cs ds
  | v, x => SeeM0 m lk v x
def SeeMA : List V → List V → Prop
  | [], [] => True
  | c :: cs, d :: ds => SeeM1 m lk c d ∧ SeeMA cs ds
  | _, _ => False
end
def pureOb : Ob → Bool
  | .box _ cs => cs.all fun v => match v with | .t x => x.cst | .rptr .. => false | _ => true
  | .row _ d _ _ => d
  | .hole _ _ _ x => (match x with | .t x => x.cst | .rptr .. => false | _ => true)
  | .gone => true
/-- The objects that are read from outside. -/
def outs0 (v x : V) : List Nat := if isOwnV x then [] else rids0 v
def outsL : List V → List V → List Nat
  | c :: cs, d :: ds => outs0 c d ++ outsL cs ds
  | _, _ => []
def outs1 : V → V → List Nat
  | .agg cs, .agg ds => outsL cs ds
  | v, x => outs0 v x
def outsA : List V → List V → List Nat
  | c :: cs, d :: ds => outs1 c d ++ outsA cs ds
  | _, _ => []
section
variable {P : Program} {B : Nat → Prop} {W : En} {st : St} {a : Act} {w : World} {pl : Nat → Value} {F : Nat → Nat → Prop} {m : List (Nat × Nat × Nat)} {objs : List (Nat × Nat × Ob)} {plc : Nat → Value} {FrE : Nat → Prop}
theorem SimW.seeM0 (h : SimW P B W st a w pl F) (hl : ∀ o ob, look objs o = some (0, ob) → look st.objs (ren m o).1 = some ((ren m o).2, renOb m ob) ∧ pl (ren m o).1 = plc o) (hF : ∀ b, Free B W.o (look st.objs) F w b → FrE b) {v x : V} (hid : ∀ i, i ∈ ids0 x → ∃ ob, look objs i = some (0, ob)) (hO : ∀ o, o ∈ outs0 v x → ∀ y b, look st.objs o = some y → F o b → FrE b)
    {u : Value} (hv : C0 P w (look st.objs) pl (Free B W.o (look st.objs) F w) v u) (hs : SeeM0 m (look st.objs) v x) : C0 P w (look objs) plc FrE x u := by
  rcases hs with ⟨_, rfl⟩ | ⟨h1, h2⟩
  · exact C0.unren (fun o ho => by obtain ⟨ob, h1⟩ := hid o ho; exact ⟨ob, h1, hl o ob h1⟩) hF hv
  · have h3 := h.see0 hF (fun o ho => hO o (by unfold outs0; rw [h1]; exact ho)) hv h2
    cases x with
    | t y => exact h3
    | lit y => exact h3
    | hnd => cases h1
    | ptr => cases h1
    | view => cases h1
    | _ => cases v <;> exact h2.elim
theorem SimW.seeML (h : SimW P B W st a w pl F) (hl : ∀ o ob, look objs o = some (0, ob) → look st.objs (ren m o).1 = some ((ren m o).2, renOb m ob) ∧ pl (ren m o).1 = plc o) (hF : ∀ b, Free B W.o (look st.objs) F w b → FrE b) : ∀ {cs ds : List V} {us : List Value}, (∀ i, i ∈ ds.flatMap ids0 → ∃ ob, look objs i = some (0, ob)) →
    (∀ o, o ∈ outsL cs ds → ∀ y b, look st.objs o = some y → F o b → FrE b) → Pw (C0 P w (look st.objs) pl (Free B W.o (look st.objs) F w)) cs us → SeeML m (look st.objs) cs ds → Pw (C0 P w (look objs) plc FrE) ds us
  | [], [], us, _, _, hp, _ => by rw [List.eq_nil_of_length_eq_zero hp.1]; exact Pw.nil
  | [], _ :: _, _, _, _, _, hs => hs.elim
  | _ :: _, [], _, _, _, _, hs => hs.elim
  | _ :: _, _ :: _, [], _, _, hp, _ => by have := hp.1; simp at this
  | c :: cs, d :: ds, u :: us, hid, hO, hp, hs =>
    Pw.cons (h.seeM0 hl hF (fun i hi => hid i (by rw [List.flatMap_cons]; exact List.mem_append_left _ hi)) (fun o ho => hO o (List.mem_append_left _ ho)) (hp.2 0 c u rfl rfl) hs.1)
      (h.seeML hl hF (fun i hi => hid i (by rw [List.flatMap_cons]; exact List.mem_append_right _ hi)) (fun o ho => hO o (List.mem_append_right _ ho)) (⟨by have := hp.1; simpa using this, fun k x v hx hv => hp.2 (k + 1) x v (by simpa using hx) (by simpa using hv)⟩) hs.2)
theorem SimW.seeM1 (h : SimW P B W st a w pl F) (hl : ∀ o ob, look objs o = some (0, ob) → look st.objs (ren m o).1 = some ((ren m o).2, renOb m ob) ∧ pl (ren m o).1 = plc o) (hF : ∀ b, Free B W.o (look st.objs) F w b → FrE b) {v x : V} (hid : ∀ i, i ∈ ids1 x → ∃ ob, look objs i = some (0, ob)) (hO : ∀ o, o ∈ outs1 v x → ∀ y b, look st.objs o = some y → F o b → FrE b)
    {u : Value} (hv : C2 P w (look st.objs) pl (Free B W.o (look st.objs) F w) v u) (hs : SeeM1 m (look st.objs) v x) : C1 P w (look objs) plc FrE x u := by
  cases v with
  | agg cs =>
    cases x with
    | agg ds =>
      obtain ⟨us, h1, h2, h3⟩ := hv
      obtain ⟨g1, g2⟩ := h.seeML hl hF hid hO ⟨h2, h3⟩ hs
      exact ⟨us, h1, g1, g2⟩
    | t => rcases hs with ⟨h1, _⟩ | ⟨_, h1⟩ <;> first | (cases h1; done) | exact h1.elim
    | _ => rcases hs with ⟨_, h1⟩ | ⟨_, h1⟩ <;> first | (cases h1; done) | exact h1.elim
  | tup vs => cases x <;> (rcases hs with ⟨h0, h1⟩ | ⟨_, h1⟩ <;> first | (cases h0; done) | (cases h1; done) | exact h1.elim)
  | t y => exact (h.seeM0 hl hF (v := .t y) (x := x) (fun i hi => hid i (by cases x <;> first | exact hi | cases hi)) (fun o ho => hO o (by cases x <;> exact ho)) hv (by cases x <;> exact hs)).c1
  | hnd o ep => exact (h.seeM0 hl hF (v := .hnd o ep) (x := x) (fun i hi => hid i (by cases x <;> first | exact hi | cases hi)) (fun o ho => hO o (by cases x <;> exact ho)) hv (by cases x <;> exact hs)).c1
  | ptr o ep i off => exact (h.seeM0 hl hF (v := .ptr o ep i off) (x := x) (fun i hi => hid i (by cases x <;> first | exact hi | cases hi)) (fun o ho => hO o (by cases x <;> exact ho)) hv (by cases x <;> exact hs)).c1
  | view o ep i n => exact (h.seeM0 hl hF (v := .view o ep i n) (x := x) (fun i hi => hid i (by cases x <;> first | exact hi | cases hi)) (fun o ho => hO o (by cases x <;> exact ho)) hv (by cases x <;> exact hs)).c1
  | lit y => exact (h.seeM0 hl hF (v := .lit y) (x := x) (fun i hi => hid i (by cases x <;> first | exact hi | cases hi)) (fun o ho => hO o (by cases x <;> exact ho)) hv (by cases x <;> exact hs)).c1
  | rptr cs off => cases x <;> (rcases hs with ⟨h0, h1⟩ | ⟨_, h1⟩ <;> first | (cases h0; done) | (cases h1; done) | exact h1.elim)
  | fr => cases x <;> (rcases hs with ⟨h0, h1⟩ | ⟨_, h1⟩ <;> first | (cases h0; done) | (cases h1; done) | exact h1.elim)
  | junk => cases x <;> (rcases hs with ⟨h0, h1⟩ | ⟨_, h1⟩ <;> first | (cases h0; done) | (cases h1; done) | exact h1.elim)
theorem SimW.seeMA (h : SimW P B W st a w pl F) (hl : ∀ o ob, look objs o = some (0, ob) → look st.objs (ren m o).1 = some ((ren m o).2, renOb m ob) ∧ pl (ren m o).1 = plc o) (hF : ∀ b, Free B W.o (look st.objs) F w b → FrE b) : ∀ (xs : List Operand) (as : List V), (∀ i, i ∈ as.flatMap ids1 → ∃ ob, look objs i = some (0, ob)) →
    (∀ o, o ∈ outsA (xs.map st.ev) as → ∀ y b, look st.objs o = some y → F o b → FrE b) → SeeMA m (look st.objs) (xs.map st.ev) as → Pw (C1 P w (look objs) plc FrE) as (xs.map a.eval)
  | [], [], _, _, _ => Pw.nil
  | [], _ :: _, _, _, hs => hs.elim
  | _ :: _, [], _, _, hs => hs.elim
  | x :: xs, d :: ds, hid, hO, hs => Pw.cons (h.seeM1 hl hF (fun i hi => hid i (by rw [List.flatMap_cons]; exact List.mem_append_left _ hi)) (fun o ho => hO o (List.mem_append_left _ ho)) (h.ev x) hs.1)
      (h.seeMA hl hF xs ds (fun i hi => hid i (by rw [List.flatMap_cons]; exact List.mem_append_right _ hi)) (fun o ho => hO o (List.mem_append_right _ ho)) hs.2)
end
end Go.Proofs.Ytmkpgcahmbancaa.Ab
namespace Go.Proofs.Ytmkpgcahmbancaa.Ab
set_option linter.unusedSimpArgs false
set_option linter.unusedVariables false
open Go.RowKit

theorem nodup_map_inj {α β : Type} {f : α → β} : ∀ {l : List α} (_ : (l.map f).Nodup) {a b : α}, a ∈ l → b ∈ l → f a = f b → a = b
  | [], _, _, _, h, _, _ => by cases h
  | c :: r, hn, a, b, ha, hb, he => by
    rw [List.map_cons, List.nodup_cons] at hn
    rcases List.mem_cons.1 ha with e1 | h1
    · rcases List.mem_cons.1 hb with e2 | h2
      · rw [e1, e2]
      · exact (hn.1 (List.mem_map.2 ⟨b, h2, by rw [← he, e1]⟩)).elim
    · rcases List.mem_cons.1 hb with e2 | h2
      · exact (hn.1 (List.mem_map.2 ⟨a, h1, by rw [he, e2]⟩)).elim
      · exact nodup_map_inj hn.2 h1 h2 he
theorem leO_mem {objs : List (Nat × Nat × Ob)} : ∀ {l : List (Nat × Nat × Ob)}, leO objs l → ∀ {i e : Nat} {b : Ob}, (i, e, b) ∈ l → look objs i = some (e, b)
  | [], _, _, _, _, h => by cases h
  | (o, e0, b0) :: r, hl, i, e, b, h => by
    rcases List.mem_cons.1 h with h | h
    · cases h; exact hl.1
    · exact leO_mem hl.2 h
/-- What comes back: one of the objects that were handed over, or as ever. -/
def isTup : V → Bool
  | .tup _ => true
  | _ => false
/-- What comes back, with what is fresh in it as objects. -/
inductive Imp2 (lk : Nat → Option (Nat × Ob)) : Nat → V → V → List (Nat × Nat × Ob) → Prop
  | tup {id vs vs' us} : ImpT lk id vs vs' us → Imp2 lk id (.tup vs) (.tup vs') us
  | agg {id cs cs' us} : ImpL lk id cs cs' us → Imp2 lk id (.agg cs) (.agg cs') us
  | fr {id fl e els ep} : nep (lk id) = ep → Imp2 lk id (.fr fl e els) (.hnd id ep) [(id, ep, .row fl true e els)]
  | other {id v} : isFr v = false → isAgg v = false → isTup v = false → Imp2 lk id v v []
theorem Imp2.eq {lk : Nat → Option (Nat × Ob)} {id : Nat} {r v : V} {us : List (Nat × Nat × Ob)} (h : Imp2 lk id r v us) : imp2 false lk id r = v ∧ upd2 false lk id r = us := by
  cases h with
  | tup h => exact ⟨congrArg V.tup h.eq.1, h.eq.2⟩
  | agg h => exact ⟨congrArg V.agg h.eq.1, h.eq.2⟩
  | fr h => subst h; exact ⟨rfl, rfl⟩
  | other h1 h2 h3 =>
    cases r <;> first | exact ⟨rfl, rfl⟩ | exact Bool.noConfusion (show true = false from h1) | exact Bool.noConfusion (show true = false from h2) | exact Bool.noConfusion (show true = false from h3)
inductive Imp3 (m : List (Nat × Nat × Nat)) (lk : Nat → Option (Nat × Ob)) (id : Nat) : V → V → List (Nat × Nat × Ob) → Prop
  | ptr {o ep k off i d e'} : ren m o = (i, d) → d + ep = e' → Imp3 m lk id (.ptr o ep k off) (.ptr i e' k off) []
  | hnd {o ep i d e'} : ren m o = (i, d) → d + ep = e' → Imp3 m lk id (.hnd o ep) (.hnd i e') []
  | imp {r v us} : isOwnV r = false → Imp2 lk id r v us → Imp3 m lk id r v us
/-- The objects in the caller's names, cell by cell. -/
inductive RenL (m : List (Nat × Nat × Nat)) : List V → List V → Prop
  | nil : RenL m [] []
  | hnd {o ep i d e' r r'} : ren m o = (i, d) → d + ep = e' → RenL m r r' → RenL m (.hnd o ep :: r) (.hnd i e' :: r')
  | ptr {o ep k off i d e' r r'} : ren m o = (i, d) → d + ep = e' → RenL m r r' → RenL m (.ptr o ep k off :: r) (.ptr i e' k off :: r')
  | view {o ep j n i d e' r r'} : ren m o = (i, d) → d + ep = e' → RenL m r r' → RenL m (.view o ep j n :: r) (.view i e' j n :: r')
  | other {v r r'} : isOwnV v = false → RenL m r r' → RenL m (v :: r) (v :: r')
inductive RenR (m : List (Nat × Nat × Nat)) : List (Nat × Nat × Ob) → List (Nat × Nat × Ob) → Prop
  | nil : RenR m [] []
  | row {o ep i d e' fl dd e els r r'} : ren m o = (i, d) → d + ep = e' → RenR m r r' → RenR m ((o, ep, .row fl dd e els) :: r) ((i, e', .row fl dd e els) :: r')
  | box {o ep i d e' ty cs cs' r r'} : ren m o = (i, d) → d + ep = e' → RenL m cs cs' → RenR m r r' → RenR m ((o, ep, .box ty cs) :: r) ((i, e', .box ty cs') :: r')
  | gone {o ep i d e' r r'} : ren m o = (i, d) → d + ep = e' → RenR m r r' → RenR m ((o, ep, .gone) :: r) ((i, e', .gone) :: r')
theorem RenL.eq {m : List (Nat × Nat × Nat)} {cs cs' : List V} (h : RenL m cs cs') : renVL m cs = cs' := by
  induction h with
  | nil => rfl
  | hnd h1 h2 _ ih => subst h2; simp [renVL, renV0, h1, ih]
  | ptr h1 h2 _ ih => subst h2; simp [renVL, renV0, h1, ih]
  | view h1 h2 _ ih => subst h2; simp [renVL, renV0, h1, ih]
  | @other v r r' h1 _ ih =>
    have : renV0 m v = v := by cases v <;> first | rfl | exact Bool.noConfusion (show true = false from h1)
    simp [renVL, this, ih]
theorem RenR.eq {m : List (Nat × Nat × Nat)} {l l' : List (Nat × Nat × Ob)} (h : RenR m l l') : renO m l = l' := by
  induction h with
  | nil => rfl
  | row h1 h2 _ ih => subst h2; simp [renO, renOb, h1, ih]
  | box h1 h2 h3 _ ih => subst h2; simp [renO, renOb, h1, h3.eq, ih]
  | gone h1 h2 _ ih => subst h2; simp [renO, renOb, h1, ih]
def nodupB : List Nat → Bool
  | [] => true
  | x :: r => !r.contains x && nodupB r
theorem nodupB_ok : ∀ {l : List Nat}, nodupB l = true → l.Nodup
  | [], _ => List.nodup_nil
  | x :: r, h => by
    unfold nodupB at h
    rw [Bool.and_eq_true, Bool.not_eq_true'] at h
    exact List.nodup_cons.2 ⟨fun hm => (by rw [List.contains_iff_mem.2 hm] at h; cases h.1), nodupB_ok h.2⟩
def newOk (st : St) (m : List (Nat × Nat × Nat)) (objs objs' : List (Nat × Nat × Ob)) : Bool :=
  objs'.all fun x => (idsL objs).contains x.1 || (match look st.objs (ren m x.1).1 with | some (e, _) => Nat.blt e ((ren m x.1).2 + x.2.1) | none => Nat.blt 0 ((ren m x.1).2 + x.2.1))
def pureM (r : V) (objs' : List (Nat × Nat × Ob)) : Bool := pureR r && objs'.all fun p => pureOb p.2.2
/-- How the caller goes on behind such a call. -/
structure MutK (st : St) (m : List (Nat × Nat × Nat)) (objs : List (Nat × Nat × Ob)) (args as : List V) (d : Nat) (KE : V → List (Nat × Nat × Ob) → Prop) (objs' : List (Nat × Nat × Ob)) (r v : V) (us us' : List (Nat × Nat × Ob)) : Prop where
  imp : Imp3 m (look st.objs) (1000 * d) r v us
  nd : nodupB (idsL (renO m objs' ++ us)) = true
  new : newOk st m objs objs' = true
  pur : (pureM r objs' = true ∧ ((outsA args as).all fun o => !(idsL (renO m objs)).contains o) = true) ∨ outsA args as = []
  sm : small2 r = true
  hin : ((idsL objs).all fun o => (idsL objs').contains o) = true
  re : RenR m objs' us'
  go : KE v (us' ++ us)
section
variable {P : Program} {B : Nat → Prop} {W : En} {o : Oper} {st : St} {KE : V → List (Nat × Nat × Ob) → Prop}
set_option maxHeartbeats 1000000 in
/-- A call that changes objects of the caller's: m tells which. -/
theorem OpS.call_mutP {c : Call} {g : FuncId} {objs : List (Nat × Nat × Ob)} {as : List V} {α : Type} {O : α → List (Nat × Nat × Ob)} {R : α → V} {Post : α → Prop} {d : Nat} {m : List (Nat × Nat × Nat)} (ho : o.op = .call c) (hd : o.dst = some d) (hc : c.callee = .value (.func g)) (hA : AMP P g objs as O R Post)
    (hs : SeeMA m (look st.objs) (c.args.toList.map st.ev) as) (hob : leO st.objs (renO m objs)) (hid : ((as.flatMap ids1).all fun o => (idsL objs).contains o) = true) (hcl : ((objs.flatMap fun p => idsOb p.2.2).all fun o => (idsL objs).contains o) = true)
    (hout : outsA (c.args.toList.map st.ev) as = [] ∨ ((∀ x, Post x → pureM (R x) (O x) = true) ∧ ((outsA (c.args.toList.map st.ev) as).all fun o => !(idsL (renO m objs)).contains o) = true)) (hinj : nodupB (idsL (renO m objs)) = true)
    (hK : ∀ x, Post x → ∃ v us us', MutK st m objs (c.args.toList.map st.ev) as d KE (O x) (R x) v us us') : OpS P B W o st KE := by
  intro a w pl F hS next Q hn
  obtain ⟨⟨fn, h1, h2, h3⟩, hz, hcall⟩ := hA
  have hrun : (execOp a.eval o).run P w = .ok (.enter g (c.args.toList.map a.eval).toArray) w := by
    unfold execOp
    rw [ho]
    have he : a.eval (.func g) = .func (.func g) #[] #[] := rfl
    have hb : fn.body ≠ none := fun e => by rw [e] at h2; cases h2
    have hnm : fn.name ≠ "runtime.NumGoroutine" := by simpa using h3
    have hm : Array.map a.eval c.args = (List.map a.eval c.args.toList).toArray := by rw [← Array.toList_map, Array.toArray_toList]
    simp [resolve, hc, he, Deferred.ofValue, invoke, callFunc, h1, hb, hnm, hm]
  classical
  have hl : ∀ o ob, look objs o = some (0, ob) → look st.objs (ren m o).1 = some ((ren m o).2, renOb m ob) := fun o ob ho => by
    have := leO_mem hob (mem_renO.2 ⟨o, 0, ob, look_mem ho, rfl, rfl, rfl⟩)
    rw [Nat.add_zero] at this
    exact this
  have hD : ∀ o x, look objs o = some x → ∃ ob, x = (0, ob) := fun o ⟨e, ob⟩ hx => ⟨ob, by rw [zero_ep hz hx]⟩
  have hDl : ∀ o x, look objs o = some x → ∃ y, look st.objs (ren m o).1 = some y := fun o x hx => by
    obtain ⟨ob, rfl⟩ := hD o x hx
    exact ⟨_, hl o ob hx⟩
  have hidsr0 : ∀ l : List (Nat × Nat × Ob), idsL (renO m l) = l.map fun p => (ren m p.1).1 := fun l => by
    induction l with
    | nil => rfl
    | cons p r ih => obtain ⟨o, e, b⟩ := p; show (ren m o).1 :: idsL (renO m r) = _; rw [ih]; rfl
  have hnd0 := nodupB_ok hinj
  rw [hidsr0] at hnd0
  have hinj0 : ∀ o o' x x', look objs o = some x → look objs o' = some x' → (ren m o).1 = (ren m o').1 → o = o' := fun o o' x x' hx hx' he => by
    have := nodup_map_inj (f := fun p : Nat × Nat × Ob => (ren m p.1).1) hnd0 (look_mem hx) (look_mem hx') he
    exact congrArg (·.1) this
  let plc : Nat → Value := fun o => pl (ren m o).1
  let Fc : Nat → Nat → Prop := fun o => F (ren m o).1
  let Bx : Nat → Prop := fun b => Free B W.o (look st.objs) F w b ∨ ((∀ x, Post x → pureM (R x) (O x) = true) ∧ ∃ o y, look st.objs o = some y ∧ (∀ o' x, look objs o' = some x → (ren m o').1 ≠ o) ∧ F o b)
  have hFE : ∀ b, Free B W.o (look st.objs) F w b → Free Bx (fun _ => False) (look objs) Fc w b := fun b hb => ⟨.inl (.inl hb), hb.2.1, fun o x hx hf => by
    obtain ⟨y, hy⟩ := hDl o x hx
    exact hb.2.2 _ _ hy hf⟩
  have hB : ∀ b, Bx b → b < w.heap.size := fun b hb => by
    rcases hb with hb | ⟨_, o, y, hy, _, hf⟩
    · exact hb.2.1
    · exact (hS.range _ _ _ hy hf).2
  have hEnv : Env0 P w Bx objs plc Fc := by
    refine ⟨fun o ep ob hx => ?_, fun o x b hx hf => ?_, fun o o' x x' b hne hx hx' hf => ?_⟩
    · have h0 := zero_ep hz hx
      subst h0
      refine ObR.unren (m := m) (fun x u hxi hc => C0.unren (lk := look st.objs) (pl := pl) (fun i hi => ?_) hFE hc) (fun x u hr => hr.mono hFE fun _ _ => rfl) (hS.objs _ _ _ (hl o ob hx))
      obtain ⟨y, hy⟩ := look_has (List.all_eq_true.1 hcl i (List.mem_flatMap.2 ⟨_, look_mem hx, hxi i hi⟩))
      obtain ⟨ob', rfl⟩ := hD i y hy
      exact ⟨ob', hy, hl i ob' hy, rfl⟩
    · obtain ⟨y, hy⟩ := hDl o x hx
      exact (hS.range _ _ b hy hf).2
    · obtain ⟨y, hy⟩ := hDl o x hx
      obtain ⟨y', hy'⟩ := hDl o' x' hx'
      exact hS.apart _ _ _ _ b (fun e => hne (hinj0 o o' _ _ hx hx' e)) hy hy' hf
  have hargs := hS.seeMA (m := m) (objs := objs) (plc := plc) (FrE := Free Bx (fun _ => False) (look objs) Fc w) (fun o ob hx => ⟨hl o ob hx, rfl⟩) hFE c.args.toList as
    (fun i hi => by
      obtain ⟨y, hy⟩ := look_has (List.all_eq_true.1 hid i hi)
      obtain ⟨ob', rfl⟩ := hD i y hy
      exact ⟨ob', hy⟩)
    (fun o hout' y b hy hf => by
      rcases hout with hp | ⟨hp1, hp2⟩
      · rw [hp] at hout'
        cases hout'
      · have hno : ∀ o' x, look objs o' = some x → (ren m o').1 ≠ o := fun o' x hx e => by
          have h5 := List.all_eq_true.1 hp2 o hout'
          obtain ⟨ob', rfl⟩ := hD o' x hx
          have h6 : (idsL (renO m objs)).contains o = true := List.contains_iff_mem.2 (List.mem_map.2 ⟨_, mem_renO.2 ⟨o', 0, ob', look_mem hx, rfl, rfl, rfl⟩, e⟩)
          rw [h6] at h5
          cases h5
        refine ⟨.inl (.inr ⟨hp1, o, y, hy, hno, hf⟩), (hS.range _ _ _ hy hf).2, fun o' x hx hf' => ?_⟩
        obtain ⟨y', hy'⟩ := hDl o' x hx
        exact hS.apart _ _ _ _ b (hno o' x hx) hy' hy hf' hf) hs
  unfold Oper.wp
  rw [hrun, Oper.upon_enter]
  refine (hcall w Bx _ plc Fc hB hEnv hargs).mono ?_
  rintro e w' ⟨x0, u, pl', F', FF, hpost, rfl, hkp, hend⟩
  obtain ⟨v, us, us', hi, hnd', hnew, hp, hsm, hin, hre, hKK⟩ := hK x0 hpost
  have hpu0 : (∀ x, Post x → pureM (R x) (O x) = true) → pureM (R x0) (O x0) = true := fun h => h x0 hpost
  generalize O x0 = objs' at *
  generalize R x0 = r at *
  have hnd := nodupB_ok hnd'
  rw [← hre.eq] at hKK
  clear hnd'
  have hDD : ∀ o x, look objs o = some x → ∃ y, look objs' o = some y := fun o x hx => look_has (List.all_eq_true.1 hin o (look_ids hx))
  have hidsr : idsL (renO m objs' ++ us) = (objs'.map fun p => (ren m p.1).1) ++ idsL us := by
    rw [← hidsr0]
    unfold idsL
    rw [List.map_append]
  have hnd' := hnd
  rw [hidsr, List.nodup_append] at hnd'
  obtain ⟨hnd1, hnd2, hnd3⟩ := hnd'
  have hinj : ∀ o o' x x', look objs' o = some x → look objs' o' = some x' → (ren m o).1 = (ren m o').1 → o = o' := fun o o' x x' hx hx' he => by
    have := nodup_map_inj (f := fun p : Nat × Nat × Ob => (ren m p.1).1) hnd1 (look_mem hx) (look_mem hx') he
    exact congrArg (·.1) this
  have hus : us = (if isOwnV r = true then [] else upd2 false (look st.objs) (1000 * d) r) := by
    cases hi with
    | ptr => rfl
    | hnd => rfl
    | imp h1 h2 => rw [if_neg (by rw [h1]; decide), h2.eq.2]
  have husm : ∀ i e b, (i, e, b) ∈ us → isOwnV r = false := fun i e b hi' => by
    cases ho : isOwnV r with
    | false => rfl
    | true => rw [hus, if_pos ho] at hi'; cases hi'
  show next (a.put o.dst u) w'
  let site := 1000 * d
  have hmem : ∀ i e b, (i, e, b) ∈ us → (i, e, b) ∈ upd2 false (look st.objs) (1000 * d) r := fun i e b hi' => by
    have g1 := husm i e b hi'
    rw [hus, if_neg (by rw [g1]; decide)] at hi'
    exact hi'
  have hdec : ∀ j k, k < 64 → (site + j * 64 + k - site) / 64 = j ∧ (site + j * 64 + k - site) % 64 = k := fun j k hk => by omega
  let Is : Nat → Prop := fun i => ∃ o x, look objs' o = some x ∧ (ren m o).1 = i
  let τ : Nat → Nat := fun i => if h : Is i then h.choose else 0
  have hτ : ∀ o x, look objs' o = some x → τ (ren m o).1 = o := fun o x hx => by
    have h : Is (ren m o).1 := ⟨o, x, hx, rfl⟩
    have e : τ (ren m o).1 = h.choose := dif_pos h
    rw [e]
    obtain ⟨y, hy, hr⟩ := h.choose_spec
    exact hinj _ _ _ _ hy hx hr
  let nv : Nat → Value := fun i => if Is i then pl' (τ i) else celU u ((i - site) / 64) ((i - site) % 64)
  let nF : Nat → Nat → Prop := fun i => if Is i then F' (τ i) else FF ((i - site) / 64) ((i - site) % 64)
  let Nw : Nat → Prop := fun i => Is i ∨ ∃ e b, (i, e, b) ∈ us
  have hnis : ∀ i e b, (i, e, b) ∈ us → ¬ Is i := fun i e b hi ⟨o, x, hx, hr⟩ =>
    hnd3 i (List.mem_map.2 ⟨_, look_mem hx, hr⟩) i (List.mem_map.2 ⟨_, hi, rfl⟩) rfl
  have nv1 : ∀ o x, look objs' o = some x → nv (ren m o).1 = pl' o := fun o x hx => by
    have e : nv (ren m o).1 = pl' (τ (ren m o).1) := if_pos ⟨o, x, hx, rfl⟩
    rw [e, hτ o x hx]
  have nF1 : ∀ o x, look objs' o = some x → nF (ren m o).1 = F' o := fun o x hx => by
    have e : nF (ren m o).1 = F' (τ (ren m o).1) := if_pos ⟨o, x, hx, rfl⟩
    rw [e, hτ o x hx]
  have nF2 : ∀ i, ¬ Is i → nF i = FF ((i - site) / 64) ((i - site) % 64) := fun i hi => if_neg hi
  have nv2 : ∀ i, ¬ Is i → nv i = celU u ((i - site) / 64) ((i - site) % 64) := fun i hi => if_neg hi
  have hmemr : ∀ o ep ob, look objs' o = some (ep, ob) → ((ren m o).1, (ren m o).2 + ep, renOb m ob) ∈ renO m objs' ++ us := fun o ep ob hx => List.mem_append_left _ (mem_renO.2 ⟨o, ep, ob, look_mem hx, rfl, rfl, rfl⟩)
  have huniq : ∀ i e b, (i, e, b) ∈ renO m objs' ++ us → look (updl st.objs (renO m objs' ++ us)) i = some (e, b) := fun i e b hi => by
    refine look_updl_mem _ _ _ _ _ hi fun e' b' hi' => ?_
    have := nodup_map_inj (f := fun p : Nat × Nat × Ob => p.1) hnd hi' hi rfl
    cases this
    exact ⟨rfl, rfl⟩
  have hFrM : ¬ pureM r objs' = true → ∀ (NF : Nat → Prop), (∀ b, (Free B W.o (look st.objs) F w b ∨ w.heap.size ≤ b ∨ ∃ j x, Nw j ∧ look st.objs j = some x ∧ F j b) → b < w'.heap.size → (∀ i, Nw i → ¬ nF i b) → NF b) →
      ∀ b, FrM Bx (En.o ⟨w, MSet objs Fc, objs, plc⟩) w' (look objs') F' FF b → NF b := fun hpu NF hNF b hb => by
    obtain ⟨q1, q2, q3, q4⟩ := hb
    refine hNF b ?_ q2 fun i hi hf => ?_
    · rcases q1 with (q1 | ⟨q1, _⟩) | (q1 | ⟨o, x, hx, hf⟩)
      · exact .inl q1
      · exact absurd (hpu0 q1) hpu
      · exact .inr (.inl q1)
      · obtain ⟨y, hy⟩ := hDl o x hx
        obtain ⟨z, hz1⟩ := hDD o x hx
        exact .inr (.inr ⟨_, y, .inl ⟨o, z, hz1, rfl⟩, hy, hf⟩)
    · rcases hi with ⟨o, x, hx, rfl⟩ | ⟨e, ob, hi⟩
      · rw [nF1 o x hx] at hf
        exact q3 o x hx hf
      · rw [nF2 i (hnis i e ob hi)] at hf
        exact q4 _ _ hf
  have hOM : ∀ b, En.o ⟨w, MSet objs Fc, objs, plc⟩ b → w.heap.size ≤ b ∨ ∃ j x, Nw j ∧ look st.objs j = some x ∧ F j b := fun b hb => by
    rcases hb with hb | ⟨o, x, hx, hf⟩
    · exact .inl hb
    · obtain ⟨y, hy⟩ := hDl o x hx
      obtain ⟨z, hz1⟩ := hDD o x hx
      exact .inr ⟨_, y, .inl ⟨o, z, hz1, rfl⟩, hy, hf⟩
  have hkk : ∀ b, b < w.heap.size → (∀ i x, Nw i → look st.objs i = some x → ¬ F i b) → w'.heap[b]? = w.heap[b]? := fun b hb hnf => hkp.block b fun ho' => by
      rcases hOM b ho' with h | ⟨j, x, hj, hx, hf⟩
      · omega
      · exact hnf j x hj hx hf
  obtain ⟨pl2, F2, hS', hpl2, hfree, hgo, hsame⟩ := hS.many (w' := w') (objs' := updl st.objs (renO m objs' ++ us)) (nv := nv) (nF := nF) (Nw := Nw)
    ⟨hkp.os, hkp.tape, hkp.output, hkp.size, fun k hk => hkp.block k fun ho' => by
      rcases ho' with ho' | ⟨o, x, hx, hf⟩
      · exact hk (.inl (Nat.le_trans hS.below.size ho'))
      · obtain ⟨y, hy⟩ := hDl o x hx
        exact hk (hS.range _ _ _ hy hf).1⟩
    hkk
    (fun i hi => look_updl_not _ _ _ fun e b he => by
      rcases List.mem_append.1 he with he | he
      · obtain ⟨o, e0, b0, h5, rfl, _⟩ := mem_renO.1 he
        obtain ⟨y, hy⟩ := look_has (l := objs') (List.contains_iff_mem.2 (List.mem_map.2 ⟨_, h5, rfl⟩))
        exact hi (.inl ⟨o, y, hy, rfl⟩)
      · exact hi (.inr ⟨e, b, he⟩))
    (fun i hi => by
      rcases hi with ⟨o, ⟨ep', ob'⟩, hx, rfl⟩ | ⟨e, b, hi⟩
      · refine ⟨_, _, huniq _ _ _ (hmemr o ep' ob' hx), ?_⟩
        cases hxo : look objs o with
        | some x =>
          obtain ⟨ob, rfl⟩ := hD o x hxo
          obtain ⟨ep2, ob2, h5, h6⟩ := hend.lks o ob hxo
          rw [hx] at h5
          cases h5
          refine ⟨fun ep0 ob0 h0 => ?_, fun h0 => (by rw [hl o ob hxo] at h0; cases h0)⟩
          rw [hl o ob hxo] at h0
          cases h0
          rcases h6 with h6 | ⟨h6, h7, h8, h9⟩
          · exact .inl (by omega)
          · exact .inr ⟨by omega, (nv1 o _ hx).trans h7, (renOb_row (P := P) m ob').1.trans (h8.trans (renOb_row (P := P) m ob).1.symm), (renOb_row m ob').2.trans (h9.trans (renOb_row m ob).2.symm)⟩
        | none =>
          have h5 := List.all_eq_true.1 hnew _ (look_mem hx)
          rw [Bool.or_eq_true] at h5
          have h6 : ¬ (idsL objs).contains o = true := fun h => by
            obtain ⟨y, hy⟩ := look_has h
            rw [hxo] at hy
            cases hy
          have h7 := h5.resolve_left h6
          refine ⟨fun ep0 ob0 h0 => .inl ?_, fun h0 => ?_⟩
          · simp only [h0] at h7
            exact Nat.le_of_ble_eq_true h7
          · simp only [h0] at h7
            exact Nat.le_of_ble_eq_true h7
      · obtain ⟨_, j, k, fl, t, els, g1, rfl, g2, g3⟩ := mem_upd2.1 (hmem _ _ _ hi)
        exact ⟨e, b, huniq _ _ _ (List.mem_append_right _ hi), fun ep0 ob0 h0 => .inl (by rw [g2]; exact nep_lt h0), fun _ => by rw [g2]; exact nep_pos _⟩)
    (fun i b hi hf => by
      rcases hi with ⟨o, x, hx, rfl⟩ | ⟨e, ob, hi⟩
      · rw [nF1 o x hx] at hf
        have := hend.range o x b hx hf
        exact ⟨this.2, hOM b this.1⟩
      · rw [nF2 i (hnis i e ob hi)] at hf
        have := hend.rangeF _ _ b hf
        exact ⟨this.2, hOM b this.1⟩)
    (fun i i' b hi hi' hne hf => by
      rcases hi with ⟨o, x, hx, rfl⟩ | ⟨e, ob, hi⟩
      · rw [nF1 o x hx] at hf
        rcases hi' with ⟨o', x', hx', rfl⟩ | ⟨e', ob', hi'⟩
        · rw [nF1 o' x' hx']
          exact hend.apart o o' x x' b (fun e => hne (by rw [e])) hx hx' hf
        · rw [nF2 i' (hnis i' e' ob' hi')]
          exact fun hf' => hend.apartM o x _ _ b hx hf' hf
      · rw [nF2 i (hnis i e ob hi)] at hf
        rcases hi' with ⟨o', x', hx', rfl⟩ | ⟨e', ob', hi'⟩
        · rw [nF1 o' x' hx']
          exact fun hf' => hend.apartM o' x' _ _ b hx' hf hf'
        · rw [nF2 i' (hnis i' e' ob' hi')]
          obtain ⟨hro, j, k, fl, t, els, g1, rfl, g2, g3⟩ := mem_upd2.1 (hmem _ _ _ hi)
          obtain ⟨_, j', k', fl', t', els', g1', rfl, g2', g3'⟩ := mem_upd2.1 (hmem _ _ _ hi')
          have hk := small_lt hsm g1
          have hk' := small_lt hsm g1'
          refine hend.apartF _ _ _ _ b ?_ hf
          have e1 := hdec j k hk
          have e2 := hdec j' k' hk'
          rw [e1.1, e1.2, e2.1, e2.2]
          omega)
    (fun lk' pl3 NF hNF hlp i ep ob hi hlk => by
      rcases hi with ⟨o, ⟨ep', ob'⟩, hx, rfl⟩ | ⟨e, b, hi⟩
      · have e1 := huniq _ _ _ (hmemr o ep' ob' hx)
        rw [hlk] at e1
        cases e1
        rw [nv1 o _ hx, nF1 o _ hx]
        have hh := hend.obs o ep' ob' hx
        have hlk3 : ∀ o ep ob, look objs' o = some (ep, ob) → lk' (ren m o).1 = some ((ren m o).2 + ep, renOb m ob) ∧ pl3 (ren m o).1 = pl' o := fun o ep ob hx => by
          obtain ⟨q1, q2⟩ := hlp (ren m o).1 (.inl ⟨o, _, hx, rfl⟩)
          exact ⟨q1.trans (huniq _ _ _ (hmemr o ep ob hx)), q2.trans (nv1 o _ hx)⟩
        by_cases hpu : pureM r objs' = true
        · have hpo : pureOb ob' = true := by
            have h5 : (pureR r && objs'.all fun p => pureOb p.2.2) = true := hpu
            rw [Bool.and_eq_true] at h5
            exact List.all_eq_true.1 h5.2 _ (look_mem hx)
          have hcell : ∀ x, (match ob' with | .box _ cs => x ∈ cs | .hole _ _ _ y => x = y | _ => False) → (match x with | .t y => y.cst | .rptr .. => false | _ => true) = true := fun x hxm => by
            cases ob' with
            | box ty cs => exact List.all_eq_true.1 hpo x hxm
            | hole e els q y => subst hxm; exact hpo
            | _ => exact hxm.elim
          refine hh.renm (fun x u hxm hc => C0.renm hlk3 (fun y e hr => ?_) (fun cs off e => ?_) hc) (fun hrow x u hr => ?_)
          · have := hcell x hxm
            subst e
            exact hr.cst this
          · have := hcell x hxm
            subst e
            cases this
          · cases ob' with
            | row fl d e els => rw [hrow] at hpo; cases hpo
            | _ => exact hrow.elim
        · have hsub := hFrM hpu NF hNF
          exact hh.renm (fun x u hxm hc => C0.renm hlk3 (fun y e hr => hr.mono hsub fun _ _ => rfl) (fun cs off e => hsub) hc) (fun hrow x u hr => hr.mono hsub fun _ _ => rfl)
      · have e1 := huniq _ _ _ (List.mem_append_right _ hi)
        rw [hlk] at e1
        cases e1
        rw [nv2 i (hnis i _ _ hi), nF2 i (hnis i _ _ hi)]
        obtain ⟨hro, j, k, fl, t, els, g1, rfl, g2, rfl⟩ := mem_upd2.1 (hmem _ _ _ hi)
        have hk := small_lt hsm g1
        have hres := hend.res
        unfold R2m at hres
        rw [if_neg (by rw [husm _ _ _ hi]; decide)] at hres
        have h5 := cellU hres g1
        refine .inl ⟨rfl, ?_⟩
        rw [(hdec j k hk).1, (hdec j k hk).2]
        exact h5)
  have hval : C2 P w' (look (updl st.objs (renO m objs' ++ us))) pl2 (Free B W.o (look (updl st.objs (renO m objs' ++ us))) F2 w') v u := by
    have hres := hend.res
    unfold R2m at hres
    cases ho : isOwnV r with
    | true =>
      rw [if_pos ho] at hres
      have hlk3 : ∀ o ep ob, look objs' o = some (ep, ob) → look (updl st.objs (renO m objs' ++ us)) (ren m o).1 = some ((ren m o).2 + ep, renOb m ob) ∧ pl2 (ren m o).1 = pl' o := fun o ep ob hx =>
        ⟨huniq _ _ _ (hmemr o ep ob hx), (hpl2 _ (.inl ⟨o, _, hx, rfl⟩)).trans (nv1 o _ hx)⟩
      have hv : renV0 m r = v := by
        cases hi with
        | ptr h1 h2 => subst h2; simp [renV0, h1]
        | hnd h1 h2 => subst h2; simp [renV0, h1]
        | imp h1 h2 => rw [h1] at ho; cases ho
      rw [← hv]
      refine (C0.renm hlk3 (fun y e => ?_) (fun cs off e => ?_) hres).c2
      · subst e; cases ho
      · subst e; cases ho
    | false =>
      rw [if_neg (by rw [ho]; decide)] at hres
      have hus' : us = upd2 false (look st.objs) (1000 * d) r := by rw [hus, if_neg (by rw [ho]; decide)]
      have hv : imp2 false (look st.objs) site r = v := by
        cases hi with
        | ptr => cases ho
        | hnd => cases ho
        | imp h1 h2 => exact h2.eq.1
      rw [← hv]
      refine imp2_ok hres (fun j k y x hcell hrd => ?_) (fun j k fl e els hcell hro => ?_) (fun j k b hro hb => by cases hro)
      · by_cases hpu : pureM r objs' = true
        · have h5 : (pureR r && objs'.all fun p => pureOb p.2.2) = true := hpu
          rw [Bool.and_eq_true] at h5
          exact hrd.flat (pure_flat h5.1 hcell)
        · exact hrd.mono (hFrM hpu _ hfree) fun _ _ => rfl
      · have hm : (site + j * 64 + k, nep (look st.objs (site + j * 64 + k)), Ob.row fl true e els) ∈ us := by rw [hus']; exact mem_upd2.2 ⟨rfl, j, k, fl, e, els, hcell, rfl, rfl, rfl⟩
        have hk := small_lt hsm hcell
        refine ⟨huniq _ _ _ (List.mem_append_right _ hm), (hpl2 _ (.inr ⟨_, _, hm⟩)).trans ?_⟩
        rw [nv2 _ (hnis _ _ _ hm), (hdec j k hk).1, (hdec j k hk).2]
  have h4 := hS'.put hval o.dst
  rw [← upds_eq] at h4
  refine hn _ _ _ _ _ _ h4 ?_ hKK
  rw [put_objs]
  refine ⟨hgo.more, hgo.heap, fun i x b hx hno hf => ?_⟩
  have hnN : ¬ Nw i := fun hN => by
    rcases hN with ⟨q, y, hy, rfl⟩ | ⟨e, ob, he⟩
    · exact hno _ _ (hmemr q y.1 y.2 hy)
    · exact hno e ob (List.mem_append_right _ he)
  exact ⟨by rw [hsame i hnN]; exact hf, hkk b (hS.range i x b hx hf).2 fun j y hj hy hf' => hS.apart i j _ _ b (fun e => hnN (by rw [e]; exact hj)) hx hy hf hf'⟩
theorem OpS.call_mut {c : Call} {g : FuncId} {objs objs' : List (Nat × Nat × Ob)} {as : List V} {r v : V} {d : Nat} {m : List (Nat × Nat × Nat)} {us us' : List (Nat × Nat × Ob)} (ho : o.op = .call c) (hd : o.dst = some d) (hc : c.callee = .value (.func g)) (hA : AM P g objs as objs' r)
    (hs : SeeMA m (look st.objs) (c.args.toList.map st.ev) as) (hob : leO st.objs (renO m objs)) (hid : ((as.flatMap ids1).all fun o => (idsL objs).contains o) = true) (hcl : ((objs.flatMap fun p => idsOb p.2.2).all fun o => (idsL objs).contains o) = true) (hinj : nodupB (idsL (renO m objs)) = true)
    (hi : Imp3 m (look st.objs) (1000 * d) r v us) (hnd : nodupB (idsL (renO m objs' ++ us)) = true) (hnew : newOk st m objs objs' = true) (hp : (pureM r objs' = true ∧ ((outsA (c.args.toList.map st.ev) as).all fun o => !(idsL (renO m objs)).contains o) = true) ∨ outsA (c.args.toList.map st.ev) as = []) (hsm : small2 r = true)
    (hin : ((idsL objs).all fun o => (idsL objs').contains o) = true) (hre : RenR m objs' us') (hK : KE v (us' ++ us)) : OpS P B W o st KE :=
  OpS.call_mutP ho hd hc hA hs hob hid hcl (hp.elim (fun h => .inr ⟨fun _ _ => h.1, h.2⟩) .inl) hinj fun _ _ => ⟨v, us, us', hi, hnd, hnew, hp, hsm, hin, hre, hK⟩
end
end Go.Proofs.Ytmkpgcahmbancaa.Ab
namespace Go.Proofs.Ytmkpgcahmbancaa.Ab
set_option linter.unusedSimpArgs false
set_option linter.unusedVariables false
open Go.RowKit
def fillV (fs : List (Nat × Nat)) : List V → List (Nat × V) → Option (List V)
  | cs, [] => some cs
  | cs, (i, v) :: r => match fs[i]? with
    | some (off, n) => if ((cellsV v).all V.sto && Nat.beq (cellsV v).length n && Nat.ble (off + n) cs.length) = true then fillV fs (setRange cs off (cellsV v)) r else none
    | none => none
theorem mapM_places {P : Program} : ∀ {gs : List Field}, (∀ f ∈ gs, P.cellsOf f.type ≠ 0) → gs.mapM (fun f => (P.info? f.type).map fun i => (f.offset, i.size)) = some (gs.map fun f => (f.offset, P.cellsOf f.type))
  | [], _ => rfl
  | f :: gs, h => by
    have ih := mapM_places (gs := gs) fun x hx => h x (by simp [hx])
    have h0 := h f (by simp)
    cases hi : P.info? f.type with
    | none => exact absurd (by simp [Program.cellsOf, hi]) h0
    | some i => simp [List.mapM_cons, hi, ih, Program.cellsOf]
section
variable {P : Program} {B : Nat → Prop} {W : En} {o : Oper} {os : List Nat} {st : St} {KE : V → List (Nat × Nat × Ob) → Prop}
theorem fill_step (us vs : List Value) (off : Nat) (h : off + vs.length ≤ us.length) : ((vs.toArray.zipIdx.foldl (fun cs (x : Value × Nat) => cs.setIfInBounds (off + x.2) x.1) us.toArray)) = (setRange us off vs).toArray := by
  have h1 := Great.foldl_set off vs 0 us.toArray
  have h2 : vs.toArray.zipIdx.foldl (fun cs (x : Value × Nat) => cs.setIfInBounds (off + x.2) x.1) us.toArray = (vs.zipIdx 0).foldl (fun cs (x : Value × Nat) => cs.setIfInBounds (off + x.2) x.1) us.toArray := by
    simp
  rw [h2]
  apply Array.ext'
  apply List.ext_getElem?
  intro k
  rw [Array.getElem?_toList, h1.2 k, setRange_get _ _ _ _ h]
  simp only [Nat.add_zero, List.size_toArray, List.getElem?_toArray]
  by_cases hk : off ≤ k ∧ k < off + vs.length
  · rw [if_pos ⟨hk.1, hk.2, by omega⟩, if_pos hk]
  · rw [if_neg (fun e => hk ⟨e.1, e.2.1⟩), if_neg hk]
theorem SimW.fill {a : Act} {w : World} {pl : Nat → Value} {F : Nat → Nat → Prop} (hs : SimW P B W st a w pl F) {fs : List (Nat × Nat)} : ∀ {xs : List (Nat × Operand)} {cs cs' : List V} {us : List Value}, Pw (C0 P w (look st.objs) pl (Free B W.o (look st.objs) F w)) cs us →
    fillV fs cs (xs.map fun p => (p.1, st.ev p.2)) = some cs' → ∃ us', Instr.fill (fs.toArray[·]?) us.toArray (xs.map fun p => (p.1, a.eval p.2)) = some us'.toArray ∧ Pw (C0 P w (look st.objs) pl (Free B W.o (look st.objs) F w)) cs' us'
  | [], cs, cs', us, hp, h => by
    cases h
    exact ⟨us, rfl, hp⟩
  | (i, x) :: xs, cs, cs', us, hp, h => by
    simp only [List.map_cons, fillV] at h
    split at h
    · rename_i off n hf
      split at h
      · rename_i hc
        rw [Bool.and_eq_true, Bool.and_eq_true] at hc
        obtain ⟨⟨c1, c2⟩, c3⟩ := hc
        have c2 := Nat.eq_of_beq_eq_true c2
        have c3 := Nat.le_of_ble_eq_true c3
        obtain ⟨vs, g1, g2, _⟩ := ((hs.ev x).c1 c1).cells c1
        have hvl : vs.length = n := by rw [g2.1, c2]
        have hul : us.length = cs.length := hp.1
        obtain ⟨us', k1, k2⟩ := SimW.fill hs (hp.setRange g2 off) h
        refine ⟨us', ?_, k2⟩
        simp only [List.map_cons, Instr.fill]
        have hf' : fs.toArray[i]? = some (off, n) := by simpa using hf
        rw [hf']
        simp only []
        have hsz : (a.eval x).cells.size = n := by rw [g1]; simpa using hvl
        rw [if_neg (by rw [hsz]; simp; omega), g1, fill_step us vs off (by omega)]
        exact k1
      · cases h
    · cases h
/-- The cells, each in the form that is wanted. -/
inductive NormL : List V → List V → Prop
  | nil : NormL [] []
  | cons {c d : V} {cs ds : List V} : c = d → NormL cs ds → NormL (c :: cs) (d :: ds)
theorem NormL.eq {cs ds : List V} (h : NormL cs ds) : cs = ds := by
  induction h with
  | nil => rfl
  | cons h _ ih => rw [h, ih]
theorem OpQ.build {t : TypeId} {parts : Array (Nat × Operand)} {xs : List (Nat × Operand)} {y : Ty} {fs : List (Nat × Nat)} {zs cs0 cs : List V} (ho : o.op = .build t parts) (hxs : parts.toList = xs) (hy : tinfo P t = some y) (hk : y.k = .struct fs) (hz : y.zero = some zs) (hnz : fs.all (fun p => !Nat.beq p.2 0) = true)
    (hf : fillV fs zs (xs.map fun p => (p.1, st.ev p.2)) = some cs0) (hN : NormL cs0 cs) (hK : KE (.agg cs) []) : OpQ P B W o os st KE :=
  OpQ.pure_ hK fun a w pl F hs => by
    subst hxs
    obtain rfl := hN.eq
    obtain ⟨gs, h1, h2⟩ := struct_t hy hk
    obtain ⟨d, i, hd, hi, _, _, _, hzero⟩ := tinfo_parts hy
    rw [hz] at hzero
    obtain ⟨z, hz1, hz2⟩ := Option.map_eq_some_iff.1 hzero.symm
    have hpz : Pw (C0 P w (look st.objs) pl (Free B W.o (look st.objs) F w)) zs z.cells.toList := by
      rw [← hz2]
      refine ⟨by simp, fun k x u hx hu => ?_⟩
      rw [List.getElem?_map, hu] at hx
      cases hx
      exact constV_ok u
    obtain ⟨us', k1, k2⟩ := SimW.fill hs hpz hf
    have hpl : gs.toList.mapM (fun f => (P.info? f.type).map fun i => (f.offset, i.size)) = some fs := by
      rw [h2]
      refine mapM_places fun f hf0 => ?_
      have := List.all_eq_true.1 hnz (f.offset, P.cellsOf f.type) (by rw [h2]; exact List.mem_map.2 ⟨f, hf0, rfl⟩)
      exact Nat.ne_of_beq_eq_false (by simpa using this)
    refine ⟨.agg us'.toArray, fun w' => ?_, us', rfl, k2.1, fun k v x hv hx => k2.2 k v x hv hx⟩
    unfold execOp
    rw [ho]
    refine exec_value (run_build w' t _ us'.toArray ?_)
    unfold Program.built
    rw [hi, h1]
    simp only [hz1, hpl]
    have e1 : (parts.map fun x => (x.1, a.eval x.2)).toList = parts.toList.map fun p => (p.1, a.eval p.2) := by simp
    rw [e1]
    simpa using k1
theorem OpS.build {t : TypeId} {parts : Array (Nat × Operand)} {xs : List (Nat × Operand)} {y : Ty} {fs : List (Nat × Nat)} {zs cs0 cs : List V} (ho : o.op = .build t parts) (hxs : parts.toList = xs) (hy : tinfo P t = some y) (hk : y.k = .struct fs) (hz : y.zero = some zs) (hnz : fs.all (fun p => !Nat.beq p.2 0) = true)
    (hf : fillV fs zs (xs.map fun p => (p.1, st.ev p.2)) = some cs0) (hN : NormL cs0 cs) (hK : KE (.agg cs) []) : OpS P B W o st KE := (OpQ.build ho hxs hy hk hz hnz hf hN hK).s
end
end Go.Proofs.Ytmkpgcahmbancaa.Ab
namespace Go.Proofs.Ytmkpgcahmbancaa.Ab
set_option linter.unusedSimpArgs false
set_option linter.unusedVariables false
open Go.RowKit

section
variable {P : Program} {B : Nat → Prop} {W : En} {o : Oper} {os : List Nat} {st : St} {KE : V → List (Nat × Nat × Ob) → Prop}
/-- A bound of a slice expression. -/
def bnd (st : St) (x : Option Operand) (dflt : Int) : Option Int :=
  match x with
  | none => some dflt
  | some x => match st.ev x with | .t (.int _ n) => some n | _ => none
theorem SimW.bnd {a : Act} {w : World} {pl : Nat → Value} {F : Nat → Nat → Prop} (h : SimW P B W st a w pl F) {x : Option Operand} {d n : Int} (hb : bnd st x d = some n) : (x = none ∧ n = d) ∨ ∃ k, x.map a.eval = some (.int k n) := by
  cases x with
  | none => cases hb; exact .inl ⟨rfl, rfl⟩
  | some x =>
    simp only [Ab.bnd] at hb
    split at hb
    · rename_i k m hx
      cases hb
      exact .inr ⟨k, by rw [Option.map_some, (h.int_at hx).1]⟩
    · cases hb
theorem run_bounds {w : World} {isS : Bool} {len cap : Nat} {lo hi : Option Value} {l h : Int} (hl : (lo = none ∧ l = 0) ∨ ∃ k, lo = some (.int k l)) (hh : (hi = none ∧ h = len) ∨ ∃ k, hi = some (.int k h)) (h0 : 0 ≤ l) (h1 : l ≤ h) (h2 : h ≤ cap) :
    (Instr.sliceBounds isS len cap lo hi none).run P w = .ok (l.toNat, h.toNat, cap) w := by
  have eh : (h.toNat : Int) = h := Int.toNat_of_nonneg (by omega)
  have b1 : ∀ (k : IntKind) (code : BoundsCode), (Instr.sliceBound (.int k h) cap code).run P w = .ok h.toNat w := fun k code => run_sliceBound w k h cap code (by omega) h2
  have b2 : ∀ (k : IntKind) (code : BoundsCode), (Instr.sliceBound (.int k l) h.toNat code).run P w = .ok l.toNat w := fun k code => run_sliceBound w k l h.toNat code h0 (by omega)
  have b3 : ∀ (k : IntKind) (code : BoundsCode), (Instr.sliceBound (.int k l) len code).run P w = .ok l.toNat w ∨ ¬ h = len := fun k code => by
    by_cases e : h = len
    · exact .inl (run_sliceBound w k l len code h0 (by omega))
    · exact .inr e
  rcases hl with ⟨rfl, rfl⟩ | ⟨kl, rfl⟩ <;> rcases hh with ⟨rfl, rfl⟩ | ⟨kh, rfl⟩
  · simp [Instr.sliceBounds]
  · cases isS <;> simp [Instr.sliceBounds, b1]
  · have b4 : ∀ (code : BoundsCode), (Instr.sliceBound (.int kl l) len code).run P w = .ok l.toNat w := fun code => (b3 kl code).resolve_right (by simp)
    simp [Instr.sliceBounds, b4]
  · cases isS <;> simp [Instr.sliceBounds, b1, b2]
theorem exec_slice {t : TypeId} {x : Operand} {lo hi : Option Operand} {a : Act} {w : World} {pl : Nat → Value} {F : Nat → Nat → Prop} (h : SimW P B W st a w pl F) {e es eb : Nat} {y : Ty} (ho : o.op = .slice t x lo hi none) (hy : tinfo P t = some y) (hk : y.k = .slice e es eb) (hes : es ≠ 0) {A : Option Addr} {n c : Nat} (hx : a.eval x = .slice A n c) {l hh : Int} (hl : bnd st lo 0 = some l) (hh' : bnd st hi n = some hh)
    (h0 : 0 ≤ l) (h1 : l ≤ hh) (h2 : hh ≤ c) (w' : World) : (execOp a.eval o).run P w' = .ok (.value (sliced A l.toNat hh.toNat c es)) w' := by
  obtain ⟨g1, g2, g3⟩ := slice_t hy hk
  have hel : P.elem t = e := by simp [Program.elem, g1]
  have ht : P.underlying t = some (.slice (P.elem t)) := by rw [hel]; exact g1
  have hsz : (sizeOf (P.elem t)).run P w' = .ok es w' := by
    rw [hel]
    subst g2
    unfold Program.cellsOf at hes ⊢
    unfold sizeOf typeInfo
    cases hi : P.info? e with
    | none => rw [hi] at hes; exact absurd rfl hes
    | some i => simp [hi]
  unfold execOp
  rw [ho]
  refine exec_value ?_
  have hb := run_bounds (P := P) (w := w') (isS := true) (len := n) (cap := c) (lo := lo.map a.eval) (hi := hi.map a.eval) ((h.bnd hl).imp (fun q => ⟨by rw [q.1]; rfl, q.2⟩) id) ((h.bnd hh').imp (fun q => ⟨by rw [q.1]; rfl, q.2⟩) id) h0 h1 h2
  rw [hx, run_sliceAt_slice w' t _ _ _ _ ht]
  show (Instr.slice t (.slice A n c) (lo.map a.eval) (hi.map a.eval) none).run P w' = _
  rw [run_slice_any w' t A n c ht, hb, Result.andThen_ok, hsz, Result.andThen_ok]
theorem cut_map {α β : Type} (f : α → β) (xs : List α) (a b : Nat) : ((xs.map f).drop a).take b = ((xs.drop a).take b).map f := by rw [← List.map_drop, ← List.map_take]
theorem sliced_eq (A : Option Addr) (l h c es : Nat) : sliced A l h c es = .slice (if c = l then A else A.map (·.add (l * es))) (h - l) (c - l) := rfl
/-- A part of a read list. -/
theorem OpQ.slice_lst {t : TypeId} {x : Operand} {lo hi : Option Operand} {fl : Bool} {e es eb e' : Nat} {els : List (List T)} {y : Ty} {l h : Int} (ho : o.op = .slice t x lo hi none) (hx : st.ev x = .t (.lst fl e' els)) (hy : tinfo P t = some y) (hk : y.k = .slice e es eb) (hes : es ≠ 0) (he : e' = e)
    {n : Nat} (hn0 : els.length = n) (hl : bnd st lo 0 = some l) (hh : bnd st hi n = some h) (h0 : 0 ≤ l ∧ l ≤ h ∧ h ≤ n) {els2 : List (List T)} (h2 : (els.drop l.toNat).take (h.toNat - l.toNat) = els2) (hK : KE (.t (.lst fl e' els2)) []) : OpQ P B W o os st KE :=
  OpQ.pure_ hK fun a w pl F hs => by
    subst he hn0 h2
    obtain ⟨A, c, us, h1, h2, h3, h4, h5, h6, h7, h8⟩ := hs.lst_at hx
    have hes' : P.cellsOf e' = es := (slice_t hy hk).2.1
    refine ⟨_, exec_slice hs ho hy hk hes h1 hl hh h0.1 h0.2.1 (by omega), ?_⟩
    generalize hln : l.toNat = ln
    generalize hhn : h.toNat = hn
    have b1 : ln ≤ hn := by omega
    have b2 : hn ≤ els.length := by omega
    have hnl : ((els.drop ln).take (hn - ln)).length = hn - ln := by rw [List.length_take, List.length_drop]; omega
    have hcut := flatten_cut h4 ln (hn - ln)
    have hsub : ∀ (k : Nat) (x : T), ((els.drop ln).take (hn - ln)).flatten[k]? = some x → els.flatten[ln * P.cellsOf e' + k]? = some x := fun k x hx => by
      rw [hcut, List.getElem?_take] at hx
      split at hx
      · rw [List.getElem?_drop] at hx; exact hx
      · cases hx
    have hsubu : ∀ (k : Nat) (u : Value), ((us.drop (ln * P.cellsOf e')).take ((hn - ln) * P.cellsOf e'))[k]? = some u → us[ln * P.cellsOf e' + k]? = some u := fun k u hx => by
      rw [List.getElem?_take] at hx
      split at hx
      · rw [List.getElem?_drop] at hx; exact hx
      · cases hx
    rw [sliced_eq]
    show Rd P w (Free B W.o (look st.objs) F w) (.lst fl e' ((els.drop ln).take (hn - ln))) (.slice _ (hn - ln) (c - ln))
    have hgoal : Rd P w (Free B W.o (look st.objs) F w) (.lst fl e' ((els.drop ln).take (hn - ln))) (.slice (if c = ln then A else A.map (·.add (ln * es))) ((els.drop ln).take (hn - ln)).length (c - ln)) := ?_
    · rwa [hnl] at hgoal
    refine .lst ((us.drop (ln * P.cellsOf e')).take ((hn - ln) * P.cellsOf e')) (by rw [hnl]; omega) (Nat.le_trans (Nat.sub_le _ _) h3) (fun x hx => h4 x (List.mem_of_mem_drop (List.mem_of_mem_take hx))) (fun hf x hx => ?_) ?_ (fun hne => ?_) fun k x u hx hv => h8 _ x u (hsub k x hx) (hsubu k u hv)
    · obtain ⟨k, hk, rfl⟩ := List.getElem_of_mem hx
      exact h5 hf _ (List.mem_of_getElem? (hsub k _ (List.getElem?_eq_getElem hk)))
    · rw [hcut, List.length_take, List.length_drop, List.length_take, List.length_drop, h6]
    · have hn0 : 0 < hn - ln := Nat.pos_of_ne_zero fun e => hne (by rw [e]; simp)
      have husn : us ≠ [] := fun e => hne (by rw [e]; simp)
      obtain ⟨ad, rfl, g5, g6⟩ := h7 husn
      have hcn : c ≠ ln := by omega
      rw [if_neg hcn]
      refine ⟨_, rfl, by rw [block_of_add]; exact g5, fun k u hk => ?_⟩
      rw [add_of_add, ← hes']
      exact g6 _ u (hsubu k u hk)
theorem OpQ.slice_nil {t : TypeId} {x : Operand} {lo hi : Option Operand} {e es eb : Nat} {y : Ty} {l h : Int} (ho : o.op = .slice t x lo hi none) (hx : st.ev x = .t .nil) (hy : tinfo P t = some y) (hk : y.k = .slice e es eb) (hes : es ≠ 0)
    (hl : bnd st lo 0 = some l) (hh : bnd st hi (0 : Nat) = some h) (h0 : 0 ≤ l ∧ l ≤ h ∧ h ≤ 0) (hK : KE (.t .nil) []) : OpQ P B W o os st KE :=
  OpQ.pure_ hK fun a w pl F hs => by
    refine ⟨_, exec_slice hs ho hy hk hes (hs.nil_at hx) hl hh h0.1 h0.2.1 (by omega), ?_⟩
    have e1 : l.toNat = 0 := by omega
    have e2 : h.toNat = 0 := by omega
    rw [e1, e2]
    exact Rd.nil
/-- A part of a text. -/
theorem OpQ.slice_str {t : TypeId} {x : Operand} {lo hi : Option Operand} {s : List UInt8} {y : Ty} {l h : Int} (ho : o.op = .slice t x lo hi none) (hx : st.ev x = .t (.str s)) (hy : tinfo P t = some y) (hk : y.k = .str)
    (hl : bnd st lo 0 = some l) (hh : bnd st hi s.length = some h) (h0 : 0 ≤ l ∧ l ≤ h ∧ h ≤ s.length) (hK : KE (.t (.str ((s.drop l.toNat).take (h.toNat - l.toNat)))) []) : OpQ P B W o os st KE :=
  OpQ.pure_ hK fun a w pl F hs => by
    obtain ⟨d, i, g1, _, g2, _⟩ := tinfo_parts hy
    have g3 : d = .string := by rw [hk] at g2; cases d <;> simp [kdOf] at g2 ⊢
    subst g3
    obtain ⟨g4, g5⟩ := hs.str_at hx
    refine ⟨.string (bs ((s.drop l.toNat).take (h.toNat - l.toNat))), fun w' => ?_, Rd.str (by rw [List.length_take, List.length_drop]; omega)⟩
    unfold execOp
    rw [ho]
    refine exec_value ?_
    have hb := run_bounds (P := P) (w := w') (isS := false) (len := s.length) (cap := s.length) (lo := lo.map a.eval) (hi := hi.map a.eval) ((hs.bnd hl).imp (fun q => ⟨by rw [q.1]; rfl, q.2⟩) id) ((hs.bnd hh).imp (fun q => ⟨by rw [q.1]; rfl, q.2⟩) id) h0.1 h0.2.1 (by omega)
    rw [g4, run_sliceAt_string w' t _ _ _ _ g1]
    show (Instr.slice t (.string (bs s)) (lo.map a.eval) (hi.map a.eval) none).run P w' = _
    simp only [Instr.slice, Sem.run_bind, run_underlying g1, Result.andThen_ok]
    simp only [Option.isSome_none, Bool.false_eq_true, if_false, bs_size, Sem.run_bind, hb, Result.andThen_ok, Sem.run_pure]
    congr 2
    apply ByteArray.ext
    rw [ByteArray.data_extract]
    apply Array.ext'
    simp [bs, List.extract]
/-- A part of an object's row, with the row as it is. -/
theorem OpQ.slice_hnd {t : TypeId} {x : Operand} {lo hi : Option Operand} {i ep : Nat} {fl d : Bool} {e es eb e' : Nat} {els : List (List T)} {y : Ty} {l h : Int} (ho : o.op = .slice t x lo hi none) (hx : st.ev x = .hnd i ep) (hlk : look st.objs i = some (ep, .row fl d e' els)) (hy : tinfo P t = some y) (hk : y.k = .slice e es eb) (hes : es ≠ 0) (he : e' = e)
    {n : Nat} (hn0 : els.length = n) (hl : bnd st lo 0 = some l) (hh : bnd st hi n = some h) (h0 : 0 ≤ l ∧ l ≤ h ∧ h ≤ n) (hK : KE (.view i ep l.toNat (h.toNat - l.toNat)) []) : OpQ P B W o os st KE :=
  OpQ.pure_ hK fun a w pl F hs => by
    subst he hn0
    obtain ⟨g1, us, hp⟩ := hs.hnd_at hx hlk
    obtain ⟨A, c, g2, g3, g4, g5⟩ := hp.slice
    have hes' : P.cellsOf e' = es := (slice_t hy hk).2.1
    refine ⟨_, exec_slice hs ho hy hk hes (g1.trans g2) hl hh h0.1 h0.2.1 (by omega), rfl, _, _, hlk, Nat.le_refl _, fun _ => ⟨rfl, _, _, sliced_eq _ _ _ _ _, by omega, by omega, fun hn => ?_⟩⟩
    have husn : us ≠ [] := fun e => by
      have := hp.len
      rw [e, flatten_len hp.uni, hes', List.length_nil] at this
      have := Nat.mul_pos (show 0 < els.length by omega) (Nat.pos_of_ne_zero hes)
      omega
    obtain ⟨g, off, rfl, _, g6, _⟩ := g5 husn
    have hcn : c ≠ l.toNat := by omega
    refine ⟨g, off, g6, ?_⟩
    rw [if_neg hcn]
    show some ((⟨g, off, none⟩ : Addr).add _) = _
    rw [add_lit0]
    simp [esz, hes']
theorem SimW.view_at {a : Act} {w : World} {pl : Nat → Value} {F : Nat → Nat → Prop} (h : SimW P B W st a w pl F) {x : Operand} {i ep j n : Nat} {fl d : Bool} {e : TypeId} {els : List (List T)} (hx : st.ev x = .view i ep j n) (hl : look st.objs i = some (ep, .row fl d e els)) :
    ∃ A c us, a.eval x = .slice A n c ∧ n ≤ c ∧ c ≤ maxLen ∧ RowP P w (Free B W.o (look st.objs) F w) (pl i) (F i) fl d e els us ∧ (0 < n → ∃ g b, blk (pl i) = some (g, b) ∧ (pl i).ownBlock = some g ∧ A = some ⟨g, b + j * P.cellsOf e, none⟩) := by
  have h1 := h.ev x
  rw [hx] at h1
  obtain ⟨_, ep', ob, h2, h3, h4⟩ : C0 P w (look st.objs) pl (Free B W.o (look st.objs) F w) (.view i ep j n) (a.eval x) := h1
  rw [hl] at h2
  cases h2
  obtain ⟨_, A, c, hu, hc1, hc2, hA⟩ := h4 rfl
  obtain ⟨us, hp⟩ := row_parts (h.objs i _ _ hl)
  refine ⟨A, c, us, hu, hc1, hc2, hp, fun hn => ?_⟩
  obtain ⟨g, b, h5, h6⟩ := hA hn
  refine ⟨g, b, h5, ?_, h6⟩
  obtain ⟨A', c', h7, _⟩ := hp.slice
  rw [h7] at h5 ⊢
  cases A' with
  | none => cases h5
  | some ad =>
    obtain ⟨gg, oo, pp⟩ := ad
    cases pp with
    | none => cases h5; rfl
    | some => cases h5
theorem OpQ.slice_view {t : TypeId} {x : Operand} {lo hi : Option Operand} {i ep j n : Nat} {fl d : Bool} {e es eb e' : Nat} {els : List (List T)} {y : Ty} {l h : Int} (ho : o.op = .slice t x lo hi none) (hx : st.ev x = .view i ep j n) (hlk : look st.objs i = some (ep, .row fl d e' els)) (hy : tinfo P t = some y) (hk : y.k = .slice e es eb) (hes : es ≠ 0) (he : e' = e)
    (hl : bnd st lo 0 = some l) (hh : bnd st hi n = some h) (h0 : 0 ≤ l ∧ l ≤ h ∧ h ≤ n) (hK : KE (.view i ep (j + l.toNat) (h.toNat - l.toNat)) []) : OpQ P B W o os st KE :=
  OpQ.pure_ hK fun a w pl F hs => by
    subst he
    obtain ⟨A, c, us, g1, g2, g3, hp, g4⟩ := hs.view_at hx hlk
    have hes' : P.cellsOf e' = es := (slice_t hy hk).2.1
    refine ⟨_, exec_slice hs ho hy hk hes g1 hl hh h0.1 h0.2.1 (by omega), rfl, _, _, hlk, Nat.le_refl _, fun _ => ⟨rfl, _, _, sliced_eq _ _ _ _ _, by omega, by omega, fun hn => ?_⟩⟩
    obtain ⟨g, b, g5, _, rfl⟩ := g4 (by omega)
    have hcn : c ≠ l.toNat := by omega
    refine ⟨g, b, g5, ?_⟩
    rw [if_neg hcn]
    show some ((⟨g, b + j * P.cellsOf e', none⟩ : Addr).add _) = _
    rw [add_lit0, ← hes']
    simp [esz, Nat.add_mul, Nat.add_assoc]
theorem OpQ.len_view {x : Operand} {t : TypeId} {c : Call} {i ep j n : Nat} {fl d : Bool} {e' : Nat} {els : List (List T)} {e es eb : Nat} {y : Ty} (ho : o.op = .call c) (h1 : c.callee = .builtin .len) (h2 : c.args = #[x]) (h3 : c.argTypes = #[t]) (hy : tinfo P t = some y) (hk : y.k = .slice e es eb) (hx : st.ev x = .view i ep j n) (hl : look st.objs i = some (ep, .row fl d e' els)) (hK : KE (.t (.int .i64 n)) []) : OpQ P B W o os st KE :=
  OpQ.pure_ hK fun a w pl F hs => by
    obtain ⟨A, cc, us, g1, g2, g3, hp, g4⟩ := hs.view_at hx hl
    exact ⟨_, fun _ => exec_len ho h1 h2 h3 hy hk g1, Rd.int (wf_len (Nat.le_trans g2 g3))⟩
theorem OpQ.index_view {t : TypeId} {x ix : Operand} {i ep j m : Nat} {fl d : Bool} {els : List (List T)} {n : Int} {k : IntKind} {e es eb e' q : Nat} {y : Ty} (ho : o.op = .indexAddr t x ix) (hx : st.ev x = .view i ep j m) (hl : look st.objs i = some (ep, .row fl d e' els)) (hi : st.ev ix = .t (.int k n)) (hy : tinfo P t = some y) (hk : y.k = .slice e es eb) (hes : es ≠ 0) (he : e' = e)
    (hn : n = (q : Int)) (hlt : q < m) (hK : KE (.ptr i ep (j + q) 0) []) : OpQ P B W o os st KE :=
  OpQ.pure_ hK fun a w pl F hs => by
    subst he hn
    obtain ⟨A, c, us, g1, g2, g3, hp, g4⟩ := hs.view_at hx hl
    have hes' : P.cellsOf e' = es := (slice_t hy hk).2.1
    obtain ⟨g, b, g5, _, rfl⟩ := g4 (by omega)
    refine ⟨_, fun _ => exec_indexAddr ho hy hk hes g1 (hs.int_at hi).1 (by omega), rfl, _, _, hl, Nat.le_refl _, fun _ => ⟨g, b, g5, ?_⟩⟩
    rw [add_lit0, Int.toNat_natCast, ← hes']
    simp [esz, Nat.add_mul, Nat.add_assoc]
theorem OpS.slice_lst {t : TypeId} {x : Operand} {lo hi : Option Operand} {fl : Bool} {e es eb e' : Nat} {els : List (List T)} {y : Ty} {l h : Int} (ho : o.op = .slice t x lo hi none) (hx : st.ev x = .t (.lst fl e' els)) (hy : tinfo P t = some y) (hk : y.k = .slice e es eb) (hes : es ≠ 0) (he : e' = e)
    {n : Nat} (hn0 : els.length = n) (hl : bnd st lo 0 = some l) (hh : bnd st hi n = some h) (h0 : 0 ≤ l ∧ l ≤ h ∧ h ≤ n) {els2 : List (List T)} (h2 : (els.drop l.toNat).take (h.toNat - l.toNat) = els2) (hK : KE (.t (.lst fl e' els2)) []) : OpS P B W o st KE := (OpQ.slice_lst ho hx hy hk hes he hn0 hl hh h0 h2 hK).s
theorem OpS.slice_nil {t : TypeId} {x : Operand} {lo hi : Option Operand} {e es eb : Nat} {y : Ty} {l h : Int} (ho : o.op = .slice t x lo hi none) (hx : st.ev x = .t .nil) (hy : tinfo P t = some y) (hk : y.k = .slice e es eb) (hes : es ≠ 0)
    (hl : bnd st lo 0 = some l) (hh : bnd st hi (0 : Nat) = some h) (h0 : 0 ≤ l ∧ l ≤ h ∧ h ≤ 0) (hK : KE (.t .nil) []) : OpS P B W o st KE := (OpQ.slice_nil ho hx hy hk hes hl hh h0 hK).s
theorem OpS.slice_str {t : TypeId} {x : Operand} {lo hi : Option Operand} {s : List UInt8} {y : Ty} {l h : Int} (ho : o.op = .slice t x lo hi none) (hx : st.ev x = .t (.str s)) (hy : tinfo P t = some y) (hk : y.k = .str)
    (hl : bnd st lo 0 = some l) (hh : bnd st hi s.length = some h) (h0 : 0 ≤ l ∧ l ≤ h ∧ h ≤ s.length) (hK : KE (.t (.str ((s.drop l.toNat).take (h.toNat - l.toNat)))) []) : OpS P B W o st KE := (OpQ.slice_str ho hx hy hk hl hh h0 hK).s
theorem OpS.slice_hnd {t : TypeId} {x : Operand} {lo hi : Option Operand} {i ep : Nat} {fl d : Bool} {e es eb e' : Nat} {els : List (List T)} {y : Ty} {l h : Int} (ho : o.op = .slice t x lo hi none) (hx : st.ev x = .hnd i ep) (hlk : look st.objs i = some (ep, .row fl d e' els)) (hy : tinfo P t = some y) (hk : y.k = .slice e es eb) (hes : es ≠ 0) (he : e' = e)
    {n : Nat} (hn0 : els.length = n) (hl : bnd st lo 0 = some l) (hh : bnd st hi n = some h) (h0 : 0 ≤ l ∧ l ≤ h ∧ h ≤ n) (hK : KE (.view i ep l.toNat (h.toNat - l.toNat)) []) : OpS P B W o st KE := (OpQ.slice_hnd ho hx hlk hy hk hes he hn0 hl hh h0 hK).s
theorem OpS.slice_view {t : TypeId} {x : Operand} {lo hi : Option Operand} {i ep j n : Nat} {fl d : Bool} {e es eb e' : Nat} {els : List (List T)} {y : Ty} {l h : Int} (ho : o.op = .slice t x lo hi none) (hx : st.ev x = .view i ep j n) (hlk : look st.objs i = some (ep, .row fl d e' els)) (hy : tinfo P t = some y) (hk : y.k = .slice e es eb) (hes : es ≠ 0) (he : e' = e)
    (hl : bnd st lo 0 = some l) (hh : bnd st hi n = some h) (h0 : 0 ≤ l ∧ l ≤ h ∧ h ≤ n) (hK : KE (.view i ep (j + l.toNat) (h.toNat - l.toNat)) []) : OpS P B W o st KE := (OpQ.slice_view ho hx hlk hy hk hes he hl hh h0 hK).s
theorem OpS.len_view {x : Operand} {t : TypeId} {c : Call} {i ep j n : Nat} {fl d : Bool} {e' : Nat} {els : List (List T)} {e es eb : Nat} {y : Ty} (ho : o.op = .call c) (h1 : c.callee = .builtin .len) (h2 : c.args = #[x]) (h3 : c.argTypes = #[t]) (hy : tinfo P t = some y) (hk : y.k = .slice e es eb) (hx : st.ev x = .view i ep j n) (hl : look st.objs i = some (ep, .row fl d e' els)) (hK : KE (.t (.int .i64 n)) []) : OpS P B W o st KE := (OpQ.len_view ho h1 h2 h3 hy hk hx hl hK).s
theorem OpS.index_view {t : TypeId} {x ix : Operand} {i ep j m : Nat} {fl d : Bool} {els : List (List T)} {n : Int} {k : IntKind} {e es eb e' q : Nat} {y : Ty} (ho : o.op = .indexAddr t x ix) (hx : st.ev x = .view i ep j m) (hl : look st.objs i = some (ep, .row fl d e' els)) (hi : st.ev ix = .t (.int k n)) (hy : tinfo P t = some y) (hk : y.k = .slice e es eb) (hes : es ≠ 0) (he : e' = e)
    (hn : n = (q : Int)) (hlt : q < m) (hK : KE (.ptr i ep (j + q) 0) []) : OpS P B W o st KE := (OpQ.index_view ho hx hl hi hy hk hes he hn hlt hK).s
/-- A view as the source of an append. -/
theorem SimW.src_view {a : Act} {w : World} {pl : Nat → Value} {F : Nat → Nat → Prop} (h : SimW P B W st a w pl F) {x : Operand} {i ep j n : Nat} {fl d : Bool} {e : TypeId} {els : List (List T)} (hx : st.ev x = .view i ep j n) (hl : look st.objs i = some (ep, .row fl d e els)) (hf : fl = true ∨ d = false) (hjn : j + n ≤ els.length) : SrcOk P B W st a w F x (P.cellsOf e) ((els.drop j).take n) [] fl := by
  obtain ⟨A, c, us, g1, g2, g3, hp, g4⟩ := h.view_at hx hl
  have hnl : ((els.drop j).take n).length = n := by rw [List.length_take, List.length_drop]; omega
  have hcut := flatten_cut hp.uni j n
  have hsub : ∀ (k : Nat) (x : T), ((els.drop j).take n).flatten[k]? = some x → els.flatten[j * P.cellsOf e + k]? = some x := fun k x hx => by
    rw [hcut, List.getElem?_take] at hx
    split at hx
    · rw [List.getElem?_drop] at hx; exact hx
    · cases hx
  have hsubu : ∀ (k : Nat) (u : Value), ((us.drop (j * P.cellsOf e)).take (n * P.cellsOf e))[k]? = some u → us[j * P.cellsOf e + k]? = some u := fun k u hx => by
    rw [List.getElem?_take] at hx
    split at hx
    · rw [List.getElem?_drop] at hx; exact hx
    · cases hx
  have hul : us.length = els.length * P.cellsOf e := by rw [← hp.len, flatten_len hp.uni]
  have hlen2 : ((us.drop (j * P.cellsOf e)).take (n * P.cellsOf e)).length = n * P.cellsOf e := by
    rw [List.length_take, List.length_drop, hul]
    have : (j + n) * P.cellsOf e ≤ els.length * P.cellsOf e := Nat.mul_le_mul_right _ hjn
    rw [Nat.add_mul] at this
    omega
  have hm : Mem w (fun _ => True) A ((us.drop (j * P.cellsOf e)).take (n * P.cellsOf e)) := fun hn => by
    have hn0 : 0 < n := Nat.pos_of_ne_zero fun e => hn (by rw [e]; simp)
    obtain ⟨g, b, hb, _, rfl⟩ := g4 hn0
    obtain ⟨A', c', _, _, _, g5⟩ := hp.slice
    have husn : us ≠ [] := fun e => hn (by rw [e]; simp)
    obtain ⟨g', off, _, _, g7, g6⟩ := g5 husn
    rw [g7] at hb
    cases hb
    exact ⟨_, rfl, trivial, fun k u hk => by rw [add_lit0, Nat.add_assoc]; exact g6 _ u (hsubu k u hk)⟩
  refine ⟨(us.drop (j * P.cellsOf e)).take (n * P.cellsOf e), by rw [g1, hnl]; rfl, fun k => by rw [g1, hnl]; exact firstCells_mem hm hlen2 k, by rw [hnl]; omega, ?_⟩
  have hlen3 : ((us.drop (j * P.cellsOf e)).take (n * P.cellsOf e)).length = ((els.drop j).take n).flatten.length := by
    rw [hcut, List.length_take, List.length_drop, List.length_take, List.length_drop, hp.len]
  have hmem : ∀ x ∈ ((els.drop j).take n).flatten, x ∈ els.flatten := fun x hx => by
    obtain ⟨k, hk, rfl⟩ := List.getElem_of_mem hx
    exact List.mem_of_getElem? (hsub k _ (List.getElem?_eq_getElem hk))
  cases fl with
  | true => exact cv_flat ⟨hlen3, fun k x u hx hu => (hp.rd _ x u (hsub k x hx) (hsubu k u hu)).flat (hp.flt rfl _ (List.mem_of_getElem? (hsub k x hx)))⟩ (fun x hx => hp.flt rfl x (hmem x hx)) _
  | false =>
    have hd : d = false := hf.resolve_left (by simp)
    exact cv_shared ⟨hlen3, fun k x u hx hu => hp.shr hd _ x u (hsub k x hx) (hsubu k u hu)⟩

/-! ### A row is cut -/
theorem OwnsR.cut {w : World} {e : TypeId} {es : Nat} {v : Value} {n c : Nat} {A : Option Addr} {us : List Value} (h : OwnsR w e es v n us) (hv : v = .slice A n c) {l hi : Nat} (h1 : l ≤ hi) (h2 : hi ≤ n) :
    OwnsR w e es (sliced A l hi c es) (hi - l) ((us.drop (l * es)).take ((hi - l) * es)) ∧ (sliced A l hi c es).ownBlock = v.ownBlock := by
  have hlen : ((us.drop (l * es)).take ((hi - l) * es)).length = (hi - l) * es := by
    rw [List.length_take, List.length_drop, h.1]
    have : hi * es ≤ n * es := Nat.mul_le_mul_right _ h2
    rw [Nat.sub_mul]
    omega
  rw [sliced_eq]
  rcases h.2 with ⟨hn, h0⟩ | ⟨g, off, cap, cur, fz, hv', hg, hfz, hnc, hcm, hcs, ht⟩
  · rw [hn] at hv
    cases hv
    have : l = 0 := by omega
    have : hi = 0 := by omega
    subst_vars
    exact ⟨⟨hlen, .inl ⟨by simp, by simp⟩⟩, by simp [Value.ownBlock]⟩
  · rw [hv'] at hv
    cases hv
    by_cases hcl : c = l
    · rw [if_pos hcl]
      refine ⟨⟨hlen, .inr ⟨g, off, c - l, cur, fz, rfl, hg, hfz, by omega, by omega, ?_, ?_⟩⟩, by rw [hv']; rfl⟩
      · have : c - l = 0 := by omega
        rw [this, Nat.zero_mul]
        omega
      · have : hi - l = 0 := by omega
        rw [this]; simp
    · rw [if_neg hcl]
      refine ⟨⟨hlen, .inr ⟨g, off + l * es, c - l, cur, fz, ?_, hg, hfz, by omega, by omega, ?_, ?_⟩⟩, by rw [hv']; show (Value.slice (some ((⟨g, off, none⟩ : Addr).add (l * es))) (hi - l) (c - l)).ownBlock = _; rw [add_lit0]; rfl⟩
      · show Value.slice (some ((⟨g, off, none⟩ : Addr).add (l * es))) (hi - l) (c - l) = _
        rw [add_lit0]
      · have h3 : l * es + (c - l) * es = c * es := by rw [← Nat.add_mul]; congr 1; omega
        omega
      · rw [← ht, List.drop_take, List.take_take, List.drop_drop]
        congr 1
        have : hi * es ≤ n * es := Nat.mul_le_mul_right _ h2
        rw [Nat.sub_mul, Nat.min_eq_left]
        omega
/-- A part of an object's row takes the row's place. -/
theorem OpS.cut {t : TypeId} {x : Operand} {lo hi : Option Operand} {i ep : Nat} {fl d : Bool} {e es eb e' : Nat} {els : List (List T)} {y : Ty} {l h : Int} (ho : o.op = .slice t x lo hi none) (hx : st.ev x = .hnd i ep) (hlk : look st.objs i = some (ep, .row fl d e' els)) (hy : tinfo P t = some y) (hk : y.k = .slice e es eb) (hes : es ≠ 0) (he : e' = e)
    {n : Nat} (hn0 : els.length = n) (hl : bnd st lo 0 = some l) (hh : bnd st hi n = some h) (h0 : 0 ≤ l ∧ l ≤ h ∧ h ≤ n) {els2 : List (List T)} (h2 : (els.drop l.toNat).take (h.toNat - l.toNat) = els2) (hK : KE (.hnd i (ep + 1)) [(i, ep + 1, .row fl d e' els2)]) : OpS P B W o st KE := by
  subst he hn0 h2
  refine OpS.chg (ks := []) (i := i) (ep := ep + 1) hK (fun x e h => by cases h) fun a w pl F hs => ?_
  obtain ⟨g1, us0, hp⟩ := hs.hnd_at hx hlk
  obtain ⟨A, c, g2, g3, g4, g5⟩ := hp.slice
  have hes' : P.cellsOf e' = es := (slice_t hy hk).2.1
  have hrun := exec_slice hs ho hy hk hes (g1.trans g2) hl hh h0.1 h0.2.1 (by omega) w
  generalize hln : l.toNat = ln at *
  generalize hhn : h.toNat = hn at *
  have b1 : ln ≤ hn := by omega
  have b2 : hn ≤ els.length := by omega
  have hcu := hp.own
  rw [hes'] at hcu
  obtain ⟨o1, o2⟩ := OwnsR.cut hcu g2 b1 b2
  have hnl : ((els.drop ln).take (hn - ln)).length = hn - ln := by rw [List.length_take, List.length_drop]; omega
  have hcut := flatten_cut hp.uni ln (hn - ln)
  have hsub : ∀ (k : Nat) (x : T), ((els.drop ln).take (hn - ln)).flatten[k]? = some x → els.flatten[ln * P.cellsOf e' + k]? = some x := fun k x hx => by
    rw [hcut, List.getElem?_take] at hx
    split at hx
    · rw [List.getElem?_drop] at hx; exact hx
    · cases hx
  have hsubu : ∀ (k : Nat) (u : Value), ((us0.drop (ln * es)).take ((hn - ln) * es))[k]? = some u → us0[ln * P.cellsOf e' + k]? = some u := fun k u hx => by
    rw [List.getElem?_take] at hx
    split at hx
    · rw [List.getElem?_drop] at hx; rw [hes']; exact hx
    · cases hx
  have huni : ∀ x ∈ (els.drop ln).take (hn - ln), x.length = P.cellsOf e' := fun x hx => hp.uni x (List.mem_of_mem_drop (List.mem_of_mem_take hx))
  have hflt : fl = true → ∀ x ∈ ((els.drop ln).take (hn - ln)).flatten, x.flat = true := fun hf x hx => by
    obtain ⟨k, hk, rfl⟩ := List.getElem_of_mem hx
    exact hp.flt hf _ (List.mem_of_getElem? (hsub k _ (List.getElem?_eq_getElem hk)))
  have hlen3 : ((els.drop ln).take (hn - ln)).flatten.length = ((us0.drop (ln * es)).take ((hn - ln) * es)).length := by
    rw [hcut, hes', List.length_take, List.length_drop, List.length_take, List.length_drop, hp.len]
  have hown : OwnsR w e' (P.cellsOf e') (sliced A ln hn c es) ((els.drop ln).take (hn - ln)).length ((us0.drop (ln * es)).take ((hn - ln) * es)) := by rw [hnl, hes']; exact o1
  have hone : (sliced A ln hn c es).oneCell' = true := rfl
  cases d with
  | false =>
    refine ⟨_, w, sliced A ln hn c es, fun b => (sliced A ln hn c es).ownBlock = some b, _, hrun, .inl rfl, Kp.refl _ _, fun _ _ _ => rfl, fun ep0 ob0 h0 => .inl (by rw [hlk] at h0; cases h0; omega), fun _ => Nat.succ_pos _, fun b hb => .inr (.inl ⟨_, hlk, hp.top b (by rw [← o2]; exact hb)⟩), fun lk' pl' Fr' gg _ e1 e2 => ⟨?_, hone, _, _, e1, Nat.le_refl _, fun _ => ⟨rfl, e2.symm⟩⟩⟩
    exact .inr ⟨rfl, _, hown, huni, hflt, hlen3, fun k x u hx hu => (hp.shr rfl _ x u (hsub k x hx) (hsubu k u hu)).mono gg.more gg.heap, fun b => Iff.rfl⟩
  | true =>
    rcases hs.objs i _ _ hlk with ⟨_, h5⟩ | ⟨h5, _⟩
    case inr => cases h5
    generalize hpl : pl i = vi at *
    cases h5 with
    | flat hf => cases hf
    | lst us1 fs s1 s2 s3 s4 s5 s6 s7 s8 =>
    have hus : us1 = us0 := s1.uniq hp.own
    subst hus
    refine ⟨_, w, sliced A ln hn c es, fun b => (sliced A ln hn c es).ownBlock = some b ∨ ∃ k, k < (hn - ln) * es ∧ fs (ln * es + k) b, _, hrun, .inl rfl, Kp.refl _ _, fun _ _ _ => rfl, fun ep0 ob0 h0 => .inl (by rw [hlk] at h0; cases h0; omega), fun _ => Nat.succ_pos _, fun b hb => .inr (.inl ⟨_, hlk, ?_⟩), fun lk' pl' Fr' gg _ e1 e2 => ⟨?_, hone, _, _, e1, Nat.le_refl _, fun _ => ⟨rfl, e2.symm⟩⟩⟩
    · rcases hb with hb | ⟨k, _, hb⟩
      · exact (s8 b).2 (.inl (by rw [← o2]; exact hb))
      · exact (s8 b).2 (.inr ⟨_, hb⟩)
    · refine .inl ⟨rfl, .lst _ (fun k b => k < (hn - ln) * es ∧ fs (ln * es + k) b) hown huni hflt hlen3 (fun k x u hx hu => ?_) (fun k k' b hne hk hk' => s6 _ _ b (by omega) hk.2 hk'.2) (fun k b hk hb => s7 _ b hk.2 (by rw [← o2]; exact hb)) fun b => Iff.rfl⟩
      have hkl : k < (hn - ln) * es := by
        have := (List.getElem?_eq_some_iff.1 hu).1
        rw [o1.1] at this
        exact this
      have e3 : (fun b => k < (hn - ln) * es ∧ fs (ln * es + k) b) = fs (ln * es + k) := funext fun b => propext ⟨fun h => h.2, fun h => ⟨hkl, h⟩⟩
      show Ow P w x u (fun b => k < (hn - ln) * es ∧ fs (ln * es + k) b)
      rw [e3]
      have := s5 _ x u (hsub k x hx) (hsubu k u hu)
      rw [hes'] at this
      exact this

/-! ### The smaller, the greater -/
theorem OpQ.min2 {c : Call} {x y : Operand} {k : IntKind} {m n : Int} (ho : o.op = .call c) (h1 : c.callee = .builtin .min) (h2 : c.args = #[x, y]) (hx : st.ev x = .t (.int k m)) (hy : st.ev y = .t (.int k n)) (hK : KE (.t (.int k (if n < m then n else m))) []) : OpQ P B W o os st KE :=
  OpQ.pure_ hK fun a w pl F hs => by
    obtain ⟨g1, g2⟩ := hs.int_at hx
    obtain ⟨g3, g4⟩ := hs.int_at hy
    refine ⟨.int k (if n < m then n else m), fun w' => ?_, Rd.int (by split <;> assumption)⟩
    unfold execOp
    rw [ho]
    simp [resolve, h1, h2, invoke, builtin, Builtin.min_, Builtin.min2, g1, g3]
theorem OpQ.max2 {c : Call} {x y : Operand} {k : IntKind} {m n : Int} (ho : o.op = .call c) (h1 : c.callee = .builtin .max) (h2 : c.args = #[x, y]) (hx : st.ev x = .t (.int k m)) (hy : st.ev y = .t (.int k n)) (hK : KE (.t (.int k (if n > m then n else m))) []) : OpQ P B W o os st KE :=
  OpQ.pure_ hK fun a w pl F hs => by
    obtain ⟨g1, g2⟩ := hs.int_at hx
    obtain ⟨g3, g4⟩ := hs.int_at hy
    refine ⟨.int k (if n > m then n else m), fun w' => ?_, Rd.int (by split <;> assumption)⟩
    unfold execOp
    rw [ho]
    simp [resolve, h1, h2, invoke, builtin, Builtin.max_, Builtin.max2, g1, g3]
theorem OpS.min2 {c : Call} {x y : Operand} {k : IntKind} {m n : Int} (ho : o.op = .call c) (h1 : c.callee = .builtin .min) (h2 : c.args = #[x, y]) (hx : st.ev x = .t (.int k m)) (hy : st.ev y = .t (.int k n)) (hK : KE (.t (.int k (if n < m then n else m))) []) : OpS P B W o st KE := (OpQ.min2 ho h1 h2 hx hy hK).s
theorem OpS.max2 {c : Call} {x y : Operand} {k : IntKind} {m n : Int} (ho : o.op = .call c) (h1 : c.callee = .builtin .max) (h2 : c.args = #[x, y]) (hx : st.ev x = .t (.int k m)) (hy : st.ev y = .t (.int k n)) (hK : KE (.t (.int k (if n > m then n else m))) []) : OpS P B W o st KE := (OpQ.max2 ho h1 h2 hx hy hK).s
/-! ### Shifts -/
theorem fdiv_in {m d : Int} (hd : 1 ≤ d) : (0 ≤ m → 0 ≤ m.fdiv d ∧ m.fdiv d ≤ m) ∧ (m < 0 → m ≤ m.fdiv d ∧ m.fdiv d < 0) := by
  have e : m.fdiv d = m / d := Int.fdiv_eq_ediv_of_nonneg m (by omega)
  rw [e]
  refine ⟨fun h => ⟨Int.ediv_nonneg h (by omega), Int.ediv_le_self _ h⟩, fun h => ⟨?_, Int.ediv_neg_of_neg_of_pos h (by omega)⟩⟩
  rw [Int.le_ediv_iff_mul_le (by omega)]
  have h5 : 0 ≤ (-m) * (d - 1) := Int.mul_nonneg (by omega) (by omega)
  rw [Int.neg_mul, Int.mul_sub, Int.mul_one] at h5
  omega
theorem OpQ.shl {t t' : TypeId} {x y : Operand} {k k' : IntKind} {m n : Int} (ho : o.op = .binOp .shl t x y t') (hx : st.ev x = .t (.int k m)) (hy : st.ev y = .t (.int k' n)) (hn : 0 ≤ n) (hK : KE (.t (.int k (k.wrap (m * 2 ^ (min n.toNat k.bits))))) []) : OpQ P B W o os st KE :=
  OpQ.pure_ hK fun a w pl F hs => by
    refine ⟨_, fun w' => ?_, Rd.int (wf_wrap _ _)⟩
    unfold execOp
    rw [ho]
    refine exec_value ?_
    rw [(hs.int_at hx).1, (hs.int_at hy).1]
    have h0 : ¬ n < 0 := by omega
    simp [eqGuard, binOp, Op.shift, h0]
theorem OpQ.shr {t t' : TypeId} {x y : Operand} {k k' : IntKind} {m n : Int} (ho : o.op = .binOp .shr t x y t') (hx : st.ev x = .t (.int k m)) (hy : st.ev y = .t (.int k' n)) (hn : 0 ≤ n) (hK : KE (.t (.int k (m.fdiv (2 ^ (min n.toNat k.bits))))) []) : OpQ P B W o os st KE :=
  OpQ.pure_ hK fun a w pl F hs => by
    have hw := (hs.int_at hx).2
    refine ⟨.int k (m.fdiv (2 ^ (min n.toNat k.bits))), fun w' => ?_, Rd.int ?_⟩
    · unfold execOp
      rw [ho]
      refine exec_value ?_
      rw [(hs.int_at hx).1, (hs.int_at hy).1]
      have h0 : ¬ n < 0 := by omega
      simp [eqGuard, binOp, Op.shift, h0]
    · have hd : (1 : Int) ≤ 2 ^ (min n.toNat k.bits) := Int.pow_pos (by decide)
      obtain ⟨h1, h2⟩ := fdiv_in (m := m) hd
      simp only [Lit.wf, Bool.and_eq_true, decide_eq_true_eq] at hw ⊢
      have h3 : k.min ≤ 0 ∧ 0 ≤ k.max := by cases k <;> exact ⟨by decide, by decide⟩
      rcases Int.lt_or_le m 0 with h | h
      · have := h2 h; omega
      · have := h1 h; omega
theorem OpS.shl {t t' : TypeId} {x y : Operand} {k k' : IntKind} {m n : Int} (ho : o.op = .binOp .shl t x y t') (hx : st.ev x = .t (.int k m)) (hy : st.ev y = .t (.int k' n)) (hn : 0 ≤ n) (hK : KE (.t (.int k (k.wrap (m * 2 ^ (min n.toNat k.bits))))) []) : OpS P B W o st KE := (OpQ.shl ho hx hy hn hK).s
theorem OpS.shr {t t' : TypeId} {x y : Operand} {k k' : IntKind} {m n : Int} (ho : o.op = .binOp .shr t x y t') (hx : st.ev x = .t (.int k m)) (hy : st.ev y = .t (.int k' n)) (hn : 0 ≤ n) (hK : KE (.t (.int k (m.fdiv (2 ^ (min n.toNat k.bits))))) []) : OpS P B W o st KE := (OpQ.shr ho hx hy hn hK).s
end
end Go.Proofs.Ytmkpgcahmbancaa.Ab
namespace Go.Proofs.Ytmkpgcahmbancaa.Ab
set_option linter.unusedSimpArgs false
set_option linter.unusedVariables false
open Go.RowKit

section
variable {P : Program} {B : Nat → Prop} {W : En} {st : St} {a : Act} {w : World} {Q : Exit → St → Prop}
/-- A step that no code takes. -/
def Ghost (P : Program) (B : Nat → Prop) (W : En) (st st' : St) : Prop := ∀ a w, Sim P B W st a w → Sim P B W st' a w
theorem aW.ghost {c : Code} {st' : St} (h : Ghost P B W st st') (hw : aW P B W c Q st') : aW P B W c Q st := fun a w hs => hw a w (h a w hs)
theorem aL.ghost {ops : Array Oper} {l : List Oper} {K : St → Prop} {st' : St} (h : Ghost P B W st st') (hw : aL P B W ops l K st') : aL P B W ops l K st := fun a w hs => hw a w (h a w hs)
/-- One object changes, another comes into being or goes; the world stays. -/
theorem ghost_two {o ep j ej : Nat} {ob obj : Ob} (hne : j ≠ o) {ob0 : Ob} (hl : look st.objs o = some (ep, ob0)) (hrow : ob.isRow = ob0.isRow) (hesz : esz P ob = esz P ob0) (hej : nep (look st.objs j) = ej)
    (h : ∀ a w pl F, SimW P B W st a w pl F → ∃ (v : Value) (F1 F2 : Nat → Prop), (∀ b, F1 b → F o b ∨ ∃ x, look st.objs j = some x ∧ F j b) ∧ (∀ b, F2 b → F o b ∨ ∃ x, look st.objs j = some x ∧ F j b) ∧ (∀ b, F1 b → ¬ F2 b) ∧
      ∀ lk' pl' Fr', (∀ b, Free B W.o (look st.objs) F w b → Fr' b) → lk' o = some (ep, ob) → lk' j = some (ej, obj) → pl' o = pl o → pl' j = v → ObR P w (C0 P w lk' pl' Fr') (Rd P w Fr') (pl o) F1 ob ∧ ObR P w (C0 P w lk' pl' Fr') (Rd P w Fr') v F2 obj) :
    Ghost P B W st (st.upds [(o, ep, ob), (j, ej, obj)]) := fun a w ⟨pl, F, hs⟩ => by
  classical
  subst hej
  obtain ⟨v, F1, F2, h1, h2, h3, h4⟩ := h a w pl F hs
  have hlo : look (updl st.objs [(o, ep, ob), (j, nep (look st.objs j), obj)]) o = some (ep, ob) := by
    show look ((j, _, obj) :: (o, ep, ob) :: st.objs) o = _
    rw [look_cons, if_neg hne, look_cons, if_pos rfl]
  have hlj : look (updl st.objs [(o, ep, ob), (j, nep (look st.objs j), obj)]) j = some (nep (look st.objs j), obj) := by
    show look ((j, _, obj) :: (o, ep, ob) :: st.objs) j = _
    rw [look_cons, if_pos rfl]
  have nvo : ∀ {α : Type} (x y : α), (if o = o then x else y) = x := fun x y => if_pos rfl
  have hN1 : ∀ (k : Nat), (k = o ∨ k = j) → k ≠ o → k = j := fun k h h' => h.resolve_left h'
  obtain ⟨pl', F', h5, _⟩ := hs.many (w' := w) (objs' := updl st.objs [(o, ep, ob), (j, nep (look st.objs j), obj)]) (nv := fun k => if k = o then pl o else v) (nF := fun k => if k = o then F1 else F2) (Nw := fun k => k = o ∨ k = j)
    (Kp.refl _ _) (fun _ _ _ => rfl)
    (fun k hk => by
      show look ((j, _, obj) :: (o, ep, ob) :: st.objs) k = _
      rw [look_cons, if_neg fun e => hk (.inr e.symm), look_cons, if_neg fun e => hk (.inl e.symm)])
    (fun k hk => by
      by_cases hko : k = o
      · subst hko
        refine ⟨ep, ob, hlo, fun ep0 ob0' h0 => .inr ?_, fun h0 => (by rw [hl] at h0; cases h0)⟩
        rw [hl] at h0
        cases h0
        exact ⟨rfl, if_pos rfl, hrow, hesz⟩
      · have hkj := hN1 k hk hko
        subst hkj
        exact ⟨_, obj, hlj, fun ep0 ob0' h0 => .inl (nep_lt h0), fun _ => nep_pos _⟩)
    (fun k b hk hf => by
      have h6 : F o b ∨ ∃ x, look st.objs j = some x ∧ F j b := by
        by_cases hko : k = o
        · simp only [if_pos hko] at hf; exact h1 b hf
        · simp only [if_neg hko] at hf; exact h2 b hf
      rcases h6 with h6 | ⟨x, hx, h6⟩
      · exact ⟨(hs.range _ _ _ hl h6).2, .inr ⟨o, _, .inl rfl, hl, h6⟩⟩
      · exact ⟨(hs.range _ _ _ hx h6).2, .inr ⟨j, _, .inr rfl, hx, h6⟩⟩)
    (fun k k' b hk hk' hne' hf hf' => by
      by_cases hko : k = o
      · simp only [if_pos hko] at hf
        have hk'o : k' ≠ o := fun e => hne' (hko.trans e.symm)
        simp only [if_neg hk'o] at hf'
        exact h3 b hf hf'
      · simp only [if_neg hko] at hf
        by_cases hk'o : k' = o
        · simp only [if_pos hk'o] at hf'
          exact h3 b hf' hf
        · exact hne' ((hN1 k hk hko).trans (hN1 k' hk' hk'o).symm))
    (fun lk' pl' Fr' hFr hlp k e b hk hlk => by
      have hle : ∀ b, Free B W.o (look st.objs) F w b → Fr' b := fun b hb => hFr b (.inl hb) hb.2.1 fun i hi hf => by
        by_cases hio : i = o
        · simp only [if_pos hio] at hf
          rcases h1 b hf with h6 | ⟨x, hx, h6⟩
          · exact hb.2.2 _ _ hl h6
          · exact hb.2.2 _ _ hx h6
        · simp only [if_neg hio] at hf
          rcases h2 b hf with h6 | ⟨x, hx, h6⟩
          · exact hb.2.2 _ _ hl h6
          · exact hb.2.2 _ _ hx h6
      obtain ⟨q1, q2⟩ := hlp o (.inl rfl)
      obtain ⟨q3, q4⟩ := hlp j (.inr rfl)
      obtain ⟨r1, r2⟩ := h4 lk' pl' Fr' hle (q1.trans hlo) (q3.trans hlj) (q2.trans (if_pos rfl)) (q4.trans (if_neg hne))
      by_cases hko : k = o
      · subst hko
        rw [hlo] at hlk
        cases hlk
        simp only [if_pos rfl]
        exact r1
      · have hkj := hN1 k hk hko
        subst hkj
        rw [hlj] at hlk
        cases hlk
        simp only [if_neg hko]
        exact r2)
  exact ⟨pl', F', h5⟩
/-- A list that a row owns becomes an object of its own. -/
theorem Ghost.open_ {o ep j ej q : Nat} {fl : Bool} {e e' : TypeId} {els els' : List (List T)} (hl : look st.objs o = some (ep, .row false true e els)) (hq : els.flatten[q]? = some (.lst fl e' els')) (hne : j ≠ o) (hej : nep (look st.objs j) = ej) :
    Ghost P B W st (st.upds [(o, ep, .hole e els q (.hnd j ej)), (j, ej, .row fl true e' els')]) := by
  refine ghost_two hne hl rfl rfl hej fun a w pl F hs => ?_
  rcases hs.objs o _ _ hl with ⟨_, h5⟩ | ⟨h5, _⟩
  case inr => cases h5
  generalize hpl : pl o = vo at *
  cases h5 with
  | flat hf => cases hf
  | lst us fs s1 s2 s3 s4 s5 s6 s7 s8 =>
  have hlt : q < us.length := by rw [← s4]; exact (List.getElem?_eq_some_iff.1 hq).1
  have hcell := s5 q _ _ hq (List.getElem?_eq_getElem hlt)
  refine ⟨us[q], fun b => vo.ownBlock = some b ∨ ∃ k, k ≠ q ∧ fs k b, fs q, fun b hb => .inl ((s8 b).2 (hb.imp id fun ⟨k, _, h⟩ => ⟨k, h⟩)), fun b hb => .inl ((s8 b).2 (.inr ⟨q, hb⟩)), fun b hb hb' => ?_, fun lk' pl' Fr' _ l1 l2 p1 p2 => ⟨?_, .inl ⟨rfl, hcell⟩⟩⟩
  · rcases hb with hb | ⟨k, hk, hb⟩
    · exact s7 q b hb' hb
    · exact s6 k q b hk hb hb'
  · refine ⟨us, fs, s1, s2, s4, fun k y u _ hy hu => s5 k y u hy hu, fun u hu => ?_, fun k k' b hk _ _ => s6 k k' b hk, fun k b _ hb => s7 k b hb, fun b => Iff.rfl, hlt⟩
    rw [List.getElem?_eq_getElem hlt] at hu
    cases hu
    exact ⟨hcell.one, _, _, l2, Nat.le_refl _, fun _ => ⟨rfl, p2.symm⟩⟩
/-- And goes back. -/
theorem Ghost.close {o ep j ej q i c : Nat} {fl : Bool} {e e' : TypeId} {els els' els2 : List (List T)} {s : Nat} (hl : look st.objs o = some (ep, .hole e els q (.hnd j ej))) (hj : look st.objs j = some (ej, .row fl true e' els')) (hne : j ≠ o) (hs : P.cellsOf e = s) (hq : q = i * s + c) (hc : c < s) (hi : i < els.length) (h2 : els2 = els.set i ((els.getD i []).set c (.lst fl e' els'))) :
    Ghost P B W st (st.upds [(o, ep, .row false true e els2), (j, ej + 1, .gone)]) := by
  refine ghost_two hne hl rfl rfl (by rw [hj]; rfl) fun a w pl F hS => ?_
  obtain ⟨us, fs, s1, s2, s3, s4, s5, s6, s7, s8, s9⟩ := hS.objs o _ _ hl
  subst h2
  have huni : ∀ x ∈ els.set i ((els.getD i []).set c (.lst fl e' els')), x.length = P.cellsOf e := fun x hx => by
    rcases List.mem_or_eq_of_mem_set hx with hx | rfl
    · exact s2 x hx
    · rw [List.length_set]; exact s2 _ (getD_mem hi)
  have hset : (els.set i ((els.getD i []).set c (.lst fl e' els'))).flatten = els.flatten.set q (.lst fl e' els') := by
    have h0 : (els.getD i []).length = P.cellsOf e := s2 _ (getD_mem hi)
    have e1 : (els.getD i []).set c (.lst fl e' els') = setRange (els.getD i []) c [.lst fl e' els'] := by
      unfold setRange
      rw [List.set_eq_take_append_cons_drop, if_pos (by omega)]
      simp
    rw [e1, flatten_set s2 hi (by simp; omega), hs, ← hq]
    unfold setRange
    rw [List.set_eq_take_append_cons_drop, if_pos (by rw [s3]; exact s9)]
    simp
  have hju : us[q]? = some us[q] := List.getElem?_eq_getElem s9
  obtain ⟨hone, ep', ob', k1, k2, k3⟩ : C0 P w (look st.objs) pl (Free B W.o (look st.objs) F w) (.hnd j ej) us[q] := s5 _ hju
  rw [hj] at k1
  cases k1
  have hju2 := (k3 rfl).2
  have hrow : Ow P w (.lst fl e' els') (pl j) (F j) := by
    rcases hS.objs j _ _ hj with ⟨_, h5⟩ | ⟨h5, _⟩
    · exact h5
    · cases h5
  have hap : ∀ k b, k ≠ q → fs k b → ¬ F j b := fun k b hk hb hf => hS.apart j o _ _ b hne hj hl hf ((s8 b).2 (.inr ⟨k, hk, hb⟩))
  refine ⟨.slice none 0 0, fun b => F o b ∨ F j b, fun _ => False, fun b hb => hb.imp id fun h => ⟨_, hj, h⟩, fun b hb => hb.elim, fun b _ hb => hb, fun lk' pl' Fr' _ l1 l2 p1 p2 => ⟨?_, fun _ h => h⟩⟩
  refine .inl ⟨rfl, .lst us (fun k => if k = q then F j else fs k) (by rw [List.length_set]; exact s1) huni (fun h => by cases h) (by rw [hset, List.length_set]; exact s3) (fun k x u hx hu => ?_) (fun k k' b hkk hb hb' => ?_) (fun k b hb ht => ?_) fun b => ?_⟩
  · rw [hset] at hx
    by_cases hk : k = q
    · subst hk
      rw [List.getElem?_set_self (by rw [s3]; exact s9)] at hx
      cases hx
      rw [hju] at hu
      cases hu
      show Ow P w _ _ (if k = k then F j else fs k)
      rw [if_pos rfl, hju2]
      exact hrow
    · rw [List.getElem?_set_ne (Ne.symm hk)] at hx
      show Ow P w _ _ (if k = q then F j else fs k)
      rw [if_neg hk]
      exact s4 k x u hk hx hu
  · by_cases hk : k = q
    · rw [if_pos hk] at hb
      by_cases hk' : k' = q
      · omega
      · rw [if_neg hk'] at hb'
        exact hap k' b hk' hb' hb
    · rw [if_neg hk] at hb
      by_cases hk' : k' = q
      · rw [if_pos hk'] at hb'
        exact hap k b hk hb hb'
      · rw [if_neg hk'] at hb'
        exact s6 k k' b hkk hk hk' hb hb'
  · by_cases hk : k = q
    · rw [if_pos hk] at hb
      exact hS.apart j o _ _ b hne hj hl hb ((s8 b).2 (.inl ht))
    · rw [if_neg hk] at hb
      exact s7 k b hk hb ht
  · constructor
    · rintro (hb | hb)
      · rcases (s8 b).1 hb with h | ⟨k, hk, h⟩
        · exact .inl h
        · exact .inr ⟨k, by show (if k = q then F j else fs k) b; rw [if_neg hk]; exact h⟩
      · exact .inr ⟨q, by show (if q = q then F j else fs q) b; rw [if_pos rfl]; exact hb⟩
    · rintro (hb | ⟨k, hb⟩)
      · exact .inl ((s8 b).2 (.inl hb))
      · by_cases hk : k = q
        · rw [if_pos hk] at hb; exact .inr hb
        · rw [if_neg hk] at hb; exact .inl ((s8 b).2 (.inr ⟨k, hk, hb⟩))
end
section
variable {P : Program} {B : Nat → Prop} {W : En} {o : Oper} {os : List Nat} {st : St} {KE : V → List (Nat × Nat × Ob) → Prop}
theorem OpQ.len_hole {x : Operand} {t : TypeId} {c : Call} {i ep q : Nat} {z : V} {e' : Nat} {els : List (List T)} {e es eb : Nat} {y : Ty} (ho : o.op = .call c) (h1 : c.callee = .builtin .len) (h2 : c.args = #[x]) (h3 : c.argTypes = #[t]) (hy : tinfo P t = some y) (hk : y.k = .slice e es eb) (hx : st.ev x = .hnd i ep) (hl : look st.objs i = some (ep, .hole e' els q z)) {m : Nat} (hm : els.length = m) (hK : KE (.t (.int .i64 m)) []) : OpQ P B W o os st KE :=
  OpQ.pure_ hK fun a w pl F hs => by
    subst hm
    have h4 := hs.ev x
    rw [hx] at h4
    obtain ⟨_, ep', ob, h5, h6, h7⟩ : C0 P w (look st.objs) pl (Free B W.o (look st.objs) F w) (.hnd i ep) (a.eval x) := h4
    rw [hl] at h5
    cases h5
    obtain ⟨us, fs, s1, s2, s3, s4, s5, s6, s7, s8, s9⟩ := hs.objs i _ _ hl
    obtain ⟨A, cc, g2, g3, g4, _⟩ := ownsRow_slice s1
    exact ⟨_, fun _ => exec_len ho h1 h2 h3 hy hk ((h7 rfl).2.trans g2), Rd.int (wf_len (Nat.le_trans g3 g4))⟩
theorem OpQ.index_hole {t : TypeId} {x ix : Operand} {i ep q : Nat} {z : V} {els : List (List T)} {n : Int} {k : IntKind} {e es eb e' m : Nat} {y : Ty} (ho : o.op = .indexAddr t x ix) (hx : st.ev x = .hnd i ep) (hl : look st.objs i = some (ep, .hole e' els q z)) (hi : st.ev ix = .t (.int k n)) (hy : tinfo P t = some y) (hk : y.k = .slice e es eb) (hes : es ≠ 0) (he : e' = e)
    (hm : n = (m : Int)) (hlt : m < els.length) (hK : KE (.ptr i ep m 0) []) : OpQ P B W o os st KE :=
  OpQ.pure_ hK fun a w pl F hs => by
    subst he hm
    have h4 := hs.ev x
    rw [hx] at h4
    obtain ⟨_, ep', ob, h5, h6, h7⟩ : C0 P w (look st.objs) pl (Free B W.o (look st.objs) F w) (.hnd i ep) (a.eval x) := h4
    rw [hl] at h5
    cases h5
    obtain ⟨us, fs, s1, s2, s3, s4, s5, s6, s7, s8, s9⟩ := hs.objs i _ _ hl
    obtain ⟨A, c, g2, g3, g4, g5⟩ := ownsRow_slice s1
    have hes' : P.cellsOf e' = es := (slice_t hy hk).2.1
    obtain ⟨g, off, rfl, g6, g7, g8⟩ := g5 fun e => by rw [e] at s9; simp at s9
    refine ⟨_, fun _ => exec_indexAddr ho hy hk hes ((h7 rfl).2.trans g2) (hs.int_at hi).1 (by omega), rfl, _, _, hl, Nat.le_refl _, fun _ => ⟨g, off, g7, ?_⟩⟩
    rw [add_lit0, Int.toNat_natCast]
    simp [esz, hes']
theorem OpS.len_hole {x : Operand} {t : TypeId} {c : Call} {i ep q : Nat} {z : V} {e' : Nat} {els : List (List T)} {e es eb : Nat} {y : Ty} (ho : o.op = .call c) (h1 : c.callee = .builtin .len) (h2 : c.args = #[x]) (h3 : c.argTypes = #[t]) (hy : tinfo P t = some y) (hk : y.k = .slice e es eb) (hx : st.ev x = .hnd i ep) (hl : look st.objs i = some (ep, .hole e' els q z)) {m : Nat} (hm : els.length = m) (hK : KE (.t (.int .i64 m)) []) : OpS P B W o st KE := (OpQ.len_hole ho h1 h2 h3 hy hk hx hl hm hK).s
theorem OpS.index_hole {t : TypeId} {x ix : Operand} {i ep q : Nat} {z : V} {els : List (List T)} {n : Int} {k : IntKind} {e es eb e' m : Nat} {y : Ty} (ho : o.op = .indexAddr t x ix) (hx : st.ev x = .hnd i ep) (hl : look st.objs i = some (ep, .hole e' els q z)) (hi : st.ev ix = .t (.int k n)) (hy : tinfo P t = some y) (hk : y.k = .slice e es eb) (hes : es ≠ 0) (he : e' = e)
    (hm : n = (m : Int)) (hlt : m < els.length) (hK : KE (.ptr i ep m 0) []) : OpS P B W o st KE := (OpQ.index_hole ho hx hl hi hy hk hes he hm hlt hK).s
/-- The cell that was taken out is loaded. -/
theorem OpS.load_hole {ty : TypeId} {x : Operand} {i ep n off q : Nat} {z : V} {e : TypeId} {els : List (List T)} {y : Ty} {v : V} {s : Nat} (ho : o.op = .load ty x) (hx : st.ev x = .ptr i ep n off) (hl : look st.objs i = some (ep, .hole e els q z)) (hy : tinfo P ty = some y) {ye : Ty} (hye : tinfo P e = some ye) (hs : ye.size = s) (hq : q = n * s + off) (hsz : y.size = 1)
    (hv : (if y.k.agg then V.agg [z] else z) = v) (hK : KE v []) : OpS P B W o st KE :=
  OpS.pure_ hK fun a w pl F h => by
    have hes : P.cellsOf e = s := by rw [cellsOf_t hye, hs]
    have h4 := h.ev x
    rw [hx] at h4
    obtain ⟨_, ep', ob, h5, h6, h7⟩ : C0 P w (look st.objs) pl (Free B W.o (look st.objs) F w) (.ptr i ep n off) (a.eval x) := h4
    rw [hl] at h5
    cases h5
    obtain ⟨g, bb, hg, hu⟩ := h7 rfl
    obtain ⟨us, fs, s1, s2, s3, s4, s5, s6, s7, s8, s9⟩ := h.objs i _ _ hl
    obtain ⟨A, c, g2, g3, g4, g5⟩ := ownsRow_slice s1
    obtain ⟨g', off', rfl, g6, g7, g8⟩ := g5 fun e => by rw [e] at s9; simp at s9
    rw [g7] at hg
    cases hg
    have hcell := g8 q _ (List.getElem?_eq_getElem s9)
    have hadr : bb + (n * esz P (.hole e els q z) + off) = bb + q := by simp only [esz, hes, hq]
    rw [hadr] at hu
    have hc := s5 _ (List.getElem?_eq_getElem s9)
    obtain ⟨u, k1, k2⟩ := run_loadVar_t hy (cs := [z]) (off := 0) (v := v) (by unfold loadV; subst hv; cases y.k.agg <;> simp [hsz]) ⟨g, bb + q, none⟩ (lk := look st.objs) (pl := pl) (Fr := Free B W.o (look st.objs) F w) (w := w) fun j zz hz => by
      cases j with
      | zero =>
        simp at hz
        subst hz
        exact ⟨_, by simpa [Addr.add] using hcell, hc⟩
      | succ j => simp at hz
    exact ⟨u, exec_load ho hu k1, k2⟩
end
end Go.Proofs.Ytmkpgcahmbancaa.Ab
namespace Go.Proofs.Ytmkpgcahmbancaa.Ab
set_option linter.unusedSimpArgs false
set_option linter.unusedVariables false
open Go.RowKit
theorem beqAll {es : Nat} {els : List (List T)} (h : (els.all fun x => Nat.beq x.length es) = true) : ∀ x ∈ els, x.length = es := fun x hx => Nat.eq_of_beq_eq_true (List.all_eq_true.1 h x hx)
section
variable {P : Program} {B : Nat → Prop} {W : En} {o : Oper} {os : List Nat} {st : St} {KE : V → List (Nat × Nat × Ob) → Prop}
theorem OpS.lit {t : TypeId} {len : Nat} {parts : Array (Nat × Operand)} {xs : List Operand} {y ye : Ty} {e es eb site ep : Nat} {zs : List V} {ts : List T} {ks : List (Nat × Nat)} {d0 d fl : Bool} {els : List (List T)} {kl : List (Nat × Nat × Ob)}
    (ho : o.op = .buildSlice t len parts) (hd : o.dst = some site) (hparts : parts.toList = (xs.zipIdx 0).map fun p => (p.2, p.1)) (hlen : xs.length = len) (hy : tinfo P t = some y) (hk : y.k = .slice e es eb) (hye : tinfo P e = some ye) (hz : ye.zero = some zs) (hzl : zs.length = es) (hes : Nat.blt 0 es = true) (hsm : Nat.ble (len * es) 16777216 = true)
    (hsto : (xs.map st.ev).all (fun v => (cellsV v).all V.sto && Nat.beq (cellsV v).length es) = true) (hcv : cvt (look st.objs) ((xs.map st.ev).flatMap cellsV) = some (ts, ks, d0)) (hd0 : d0 = d) (hnd : nodupB (ks.map (·.1)) = true) (hks : (ks.all fun p => !Nat.beq p.1 site) = true)
    (hel : els.flatten = ts) (hell : els.length = len) (hu : (els.all fun x => Nat.beq x.length es) = true) (hfl : ts.all T.flat = fl) (hep : nep (look st.objs site) = ep) (hkl : kills ks = kl) (hK : KE (.hnd site ep) ((site, ep, .row fl d e els) :: kl)) : OpS P B W o st KE := by
  subst hd0 hkl
  refine OpS.buildSlice ho hd hparts hlen hy hk hye hz hzl (Nat.le_of_ble_eq_true hes) (Nat.le_of_ble_eq_true hsm) rfl ?_ hcv (nodupB_ok hnd) (fun x e hx hs => ?_) hel hell (beqAll hu) hfl hep hK
  · rw [List.all_eq_true] at hsto ⊢
    intro v hv
    have := hsto v hv
    rw [Bool.and_eq_true] at this ⊢
    exact ⟨this.1, decide_eq_true (Nat.eq_of_beq_eq_true this.2)⟩
  · have := List.all_eq_true.1 hks _ hx
    subst hs
    simp at this
theorem uni_lst {a : Act} {w : World} {pl : Nat → Value} {F : Nat → Nat → Prop} (h : SimW P B W st a w pl F) {x : Operand} {fl : Bool} {e : TypeId} {els : List (List T)} (hx : st.ev x = .t (.lst fl e els)) : (∀ x ∈ els, x.length = P.cellsOf e) ∧ (fl = true → ∀ x ∈ els.flatten, x.flat = true) := by
  obtain ⟨A, c, us, h1, h2, h3, h4, h5, _⟩ := h.lst_at hx
  exact ⟨h4, h5⟩
theorem uni_hnd {a : Act} {w : World} {pl : Nat → Value} {F : Nat → Nat → Prop} (h : SimW P B W st a w pl F) {i ep : Nat} {fl d : Bool} {e : TypeId} {els : List (List T)} (hl : look st.objs i = some (ep, .row fl d e els)) : (∀ x ∈ els, x.length = P.cellsOf e) ∧ (fl = true → ∀ x ∈ els.flatten, x.flat = true) := by
  obtain ⟨us, hp⟩ := row_parts (h.objs i _ _ hl)
  exact ⟨hp.uni, hp.flt⟩
theorem uni_str {s : List UInt8} : (∀ x ∈ (s.map fun c => [T.int .u8 (c.toNat : Nat)]), x.length = 1) ∧ ∀ x ∈ (s.map fun c => [T.int .u8 (c.toNat : Nat)]).flatten, x.flat = true :=
  ⟨fun x hx => by obtain ⟨c, _, rfl⟩ := List.mem_map.1 hx; rfl, fun x hx => by
    obtain ⟨l, hl, hx⟩ := List.mem_flatten.1 hx
    obtain ⟨c, _, rfl⟩ := List.mem_map.1 hl
    rw [List.mem_singleton.1 hx]
    rfl⟩
theorem cut_mem {α : Type} {els : List (List α)} {j n : Nat} {x : List α} (h : x ∈ (els.drop j).take n) : x ∈ els := List.mem_of_mem_drop (List.mem_of_mem_take h)
theorem cut_flat {els : List (List T)} {j n : Nat} {x : T} (h : x ∈ ((els.drop j).take n).flatten) : x ∈ els.flatten := by
  obtain ⟨l, hl, hx⟩ := List.mem_flatten.1 h
  exact List.mem_flatten.2 ⟨l, cut_mem hl, hx⟩
theorem OpS.app_nil_lst {s x : Operand} {c : Call} {t xt e es eb site ep : Nat} {y yx ye : Ty} {zs : List V} {fl : Bool} {e2 n : Nat} {els els' : List (List T)} {flr dr : Bool} (ho : o.op = .call c) (hd : o.dst = some site) (h1 : c.callee = .builtin .append) (h2 : c.args = #[s, x]) (h3 : c.argTypes = #[t, xt])
    (hy : tinfo P t = some y) (hk : y.k = .slice e es eb) (hyx : tinfo P xt = some yx) (hkx : yx.k = .str ∨ ∃ a b c, yx.k = .slice a b c) (hye : tinfo P e = some ye) (hz : ye.zero = some zs) (hzl : zs.length = es) (hs : st.ev s = .t .nil) (hx : st.ev x = .t (.lst fl e2 els)) (he2 : e2 = e) (hn : els.length = n) (hfit : fits 0 n eb) (hflr : fl = flr) (hdr : fl = dr) (hels : els = els') (hep : nep (look st.objs site) = ep)
    (hK : KE (.hnd site ep) ((site, ep, .row flr dr e els') :: [])) : OpS P B W o st KE := by
  have hes : P.cellsOf e = es := (slice_t hy hk).2.1
  subst hflr hdr hels
  subst he2 hn
  have hln : (els).length = els.length := rfl
  have hsrc : ∀ a w pl F, SimW P B W st a w pl F → SrcOk P B W st a w F x es els [] fl := fun a w pl F h => by rw [← hes]; exact h.src_lst hx
  have huni : ∀ a w pl F, SimW P B W st a w pl F → (∀ y ∈ els, y.length = es) ∧ (fl = true → ∀ y ∈ (els).flatten, y.flat = true) := fun a w pl F h => by rw [← hes]; exact uni_lst h hx
  exact OpS.append_nil (ks := []) (fl := fl) (d := fl) ho hd h1 h2 h3 hy hk hyx hkx hye hz hzl hs hsrc huni (fun x e h => by cases h) (by rw [hln]; exact hfit) hep hK
theorem OpS.app_hnd_lst {s x : Operand} {c : Call} {t xt e e0 es eb i ep n1 : Nat} {y yx ye : Ty} {zs : List V} {els0 : List (List T)} {d0 fl0 : Bool} {fl : Bool} {e2 n : Nat} {els els' : List (List T)} {flr dr : Bool} (ho : o.op = .call c) (h1 : c.callee = .builtin .append) (h2 : c.args = #[s, x]) (h3 : c.argTypes = #[t, xt])
    (hy : tinfo P t = some y) (hk : y.k = .slice e es eb) (hyx : tinfo P xt = some yx) (hkx : yx.k = .str ∨ ∃ a b c, yx.k = .slice a b c) (hye : tinfo P e = some ye) (hz : ye.zero = some zs) (hzl : zs.length = es) (hs : st.ev s = .hnd i ep) (hl : look st.objs i = some (ep, .row fl0 d0 e0 els0)) (he0 : e0 = e) (hn1 : els0.length = n1) (hx : st.ev x = .t (.lst fl e2 els)) (he2 : e2 = e) (hn : els.length = n) (hfit : fits n1 n eb) (hflr : (fl0 && fl) = flr) (hdr : (d0 && fl) = dr) (hels : els0 ++ els = els')
    (hK : KE (.hnd i (ep + 1)) ((i, ep + 1, .row flr dr e els') :: [])) : OpS P B W o st KE := by
  have hes : P.cellsOf e = es := (slice_t hy hk).2.1
  subst hflr hdr hels hn1 he0
  subst he2 hn
  have hln : (els).length = els.length := rfl
  have hsrc : ∀ a w pl F, SimW P B W st a w pl F → SrcOk P B W st a w F x es els [] fl := fun a w pl F h => by rw [← hes]; exact h.src_lst hx
  have huni : ∀ a w pl F, SimW P B W st a w pl F → (∀ y ∈ els, y.length = es) ∧ (fl = true → ∀ y ∈ (els).flatten, y.flat = true) := fun a w pl F h => by rw [← hes]; exact uni_lst h hx
  exact OpS.append_hnd (ks := []) (fl := fl0 && fl) (d := fl) (d' := d0 && fl) ho h1 h2 h3 hy hk hyx hkx hye hz hzl hs hl rfl hsrc (fun a w pl F h => ⟨(huni a w pl F h).1, fun hf => (huni a w pl F h).2 (Eq.mp (Bool.and_eq_true _ _) hf).2⟩) (fun x e h => by cases h) (by rw [hln]; exact hfit) (fun hf => (Eq.mp (Bool.and_eq_true _ _) hf).1) (fun hf => Eq.mp (Bool.and_eq_true _ _) hf) hK
theorem OpS.app_nil_nil {s x : Operand} {c : Call} {t xt e es eb site ep : Nat} {y yx ye : Ty} {zs : List V} {n : Nat} {els' : List (List T)} {flr dr : Bool} (ho : o.op = .call c) (hd : o.dst = some site) (h1 : c.callee = .builtin .append) (h2 : c.args = #[s, x]) (h3 : c.argTypes = #[t, xt])
    (hy : tinfo P t = some y) (hk : y.k = .slice e es eb) (hyx : tinfo P xt = some yx) (hkx : yx.k = .str ∨ ∃ a b c, yx.k = .slice a b c) (hye : tinfo P e = some ye) (hz : ye.zero = some zs) (hzl : zs.length = es) (hs : st.ev s = .t .nil) (hx : st.ev x = .t .nil) (hn : 0 = n) (hfit : fits 0 n eb) (hflr : true = flr) (hdr : true = dr) (hels : ([] : List (List T)) = els') (hep : nep (look st.objs site) = ep)
    (hK : KE (.hnd site ep) ((site, ep, .row flr dr e els') :: [])) : OpS P B W o st KE := by
  have hes : P.cellsOf e = es := (slice_t hy hk).2.1
  subst hflr hdr hels
  subst hn
  have hln : (([] : List (List T))).length = 0 := rfl
  have hsrc : ∀ a w pl F, SimW P B W st a w pl F → SrcOk P B W st a w F x es ([] : List (List T)) [] true := fun a w pl F h => h.src_nil hx es
  have huni : ∀ a w pl F, SimW P B W st a w pl F → (∀ y ∈ ([] : List (List T)), y.length = es) ∧ (true = true → ∀ y ∈ (([] : List (List T))).flatten, y.flat = true) := fun a w pl F h => ⟨fun x hx => (by cases hx), fun _ x hx => (by cases hx)⟩
  exact OpS.append_nil (ks := []) (fl := true) (d := true) ho hd h1 h2 h3 hy hk hyx hkx hye hz hzl hs hsrc huni (fun x e h => by cases h) (by rw [hln]; exact hfit) hep hK
theorem OpS.app_hnd_nil {s x : Operand} {c : Call} {t xt e e0 es eb i ep n1 : Nat} {y yx ye : Ty} {zs : List V} {els0 : List (List T)} {d0 fl0 : Bool} {n : Nat} {els' : List (List T)} {flr dr : Bool} (ho : o.op = .call c) (h1 : c.callee = .builtin .append) (h2 : c.args = #[s, x]) (h3 : c.argTypes = #[t, xt])
    (hy : tinfo P t = some y) (hk : y.k = .slice e es eb) (hyx : tinfo P xt = some yx) (hkx : yx.k = .str ∨ ∃ a b c, yx.k = .slice a b c) (hye : tinfo P e = some ye) (hz : ye.zero = some zs) (hzl : zs.length = es) (hs : st.ev s = .hnd i ep) (hl : look st.objs i = some (ep, .row fl0 d0 e0 els0)) (he0 : e0 = e) (hn1 : els0.length = n1) (hx : st.ev x = .t .nil) (hn : 0 = n) (hfit : fits n1 n eb) (hflr : (fl0 && true) = flr) (hdr : (d0 && true) = dr) (hels : els0 ++ ([] : List (List T)) = els')
    (hK : KE (.hnd i (ep + 1)) ((i, ep + 1, .row flr dr e els') :: [])) : OpS P B W o st KE := by
  have hes : P.cellsOf e = es := (slice_t hy hk).2.1
  subst hflr hdr hels hn1 he0
  subst hn
  have hln : (([] : List (List T))).length = 0 := rfl
  have hsrc : ∀ a w pl F, SimW P B W st a w pl F → SrcOk P B W st a w F x es ([] : List (List T)) [] true := fun a w pl F h => h.src_nil hx es
  have huni : ∀ a w pl F, SimW P B W st a w pl F → (∀ y ∈ ([] : List (List T)), y.length = es) ∧ (true = true → ∀ y ∈ (([] : List (List T))).flatten, y.flat = true) := fun a w pl F h => ⟨fun x hx => (by cases hx), fun _ x hx => (by cases hx)⟩
  exact OpS.append_hnd (ks := []) (fl := fl0 && true) (d := true) (d' := d0 && true) ho h1 h2 h3 hy hk hyx hkx hye hz hzl hs hl rfl hsrc (fun a w pl F h => ⟨(huni a w pl F h).1, fun hf => (huni a w pl F h).2 (Eq.mp (Bool.and_eq_true _ _) hf).2⟩) (fun x e h => by cases h) (by rw [hln]; exact hfit) (fun hf => (Eq.mp (Bool.and_eq_true _ _) hf).1) (fun hf => Eq.mp (Bool.and_eq_true _ _) hf) hK
theorem OpS.app_nil_str {s x : Operand} {c : Call} {t xt e es eb site ep : Nat} {y yx ye : Ty} {zs : List V} {b : List UInt8} {n : Nat} {els' : List (List T)} {flr dr : Bool} (ho : o.op = .call c) (hd : o.dst = some site) (h1 : c.callee = .builtin .append) (h2 : c.args = #[s, x]) (h3 : c.argTypes = #[t, xt])
    (hy : tinfo P t = some y) (hk : y.k = .slice e es eb) (hyx : tinfo P xt = some yx) (hkx : yx.k = .str ∨ ∃ a b c, yx.k = .slice a b c) (hye : tinfo P e = some ye) (hz : ye.zero = some zs) (hzl : zs.length = es) (hs : st.ev s = .t .nil) (hx : st.ev x = .t (.str b)) (hes1 : es = 1) (hn : b.length = n) (hfit : fits 0 n eb) (hflr : true = flr) (hdr : true = dr) (hels : (b.map fun c => [T.int .u8 (c.toNat : Nat)]) = els') (hep : nep (look st.objs site) = ep)
    (hK : KE (.hnd site ep) ((site, ep, .row flr dr e els') :: [])) : OpS P B W o st KE := by
  have hes : P.cellsOf e = es := (slice_t hy hk).2.1
  subst hflr hdr hels
  subst hn
  have hln : ((b.map fun c => [T.int .u8 (c.toNat : Nat)])).length = b.length := by simp
  have hsrc : ∀ a w pl F, SimW P B W st a w pl F → SrcOk P B W st a w F x es (b.map fun c => [T.int .u8 (c.toNat : Nat)]) [] true := fun a w pl F h => by subst hes1; exact h.src_str hx
  have huni : ∀ a w pl F, SimW P B W st a w pl F → (∀ y ∈ (b.map fun c => [T.int .u8 (c.toNat : Nat)]), y.length = es) ∧ (true = true → ∀ y ∈ ((b.map fun c => [T.int .u8 (c.toNat : Nat)])).flatten, y.flat = true) := fun a w pl F h => by subst hes1; exact ⟨uni_str.1, fun _ => uni_str.2⟩
  exact OpS.append_nil (ks := []) (fl := true) (d := true) ho hd h1 h2 h3 hy hk hyx hkx hye hz hzl hs hsrc huni (fun x e h => by cases h) (by rw [hln]; exact hfit) hep hK
theorem OpS.app_hnd_str {s x : Operand} {c : Call} {t xt e e0 es eb i ep n1 : Nat} {y yx ye : Ty} {zs : List V} {els0 : List (List T)} {d0 fl0 : Bool} {b : List UInt8} {n : Nat} {els' : List (List T)} {flr dr : Bool} (ho : o.op = .call c) (h1 : c.callee = .builtin .append) (h2 : c.args = #[s, x]) (h3 : c.argTypes = #[t, xt])
    (hy : tinfo P t = some y) (hk : y.k = .slice e es eb) (hyx : tinfo P xt = some yx) (hkx : yx.k = .str ∨ ∃ a b c, yx.k = .slice a b c) (hye : tinfo P e = some ye) (hz : ye.zero = some zs) (hzl : zs.length = es) (hs : st.ev s = .hnd i ep) (hl : look st.objs i = some (ep, .row fl0 d0 e0 els0)) (he0 : e0 = e) (hn1 : els0.length = n1) (hx : st.ev x = .t (.str b)) (hes1 : es = 1) (hn : b.length = n) (hfit : fits n1 n eb) (hflr : (fl0 && true) = flr) (hdr : (d0 && true) = dr) (hels : els0 ++ (b.map fun c => [T.int .u8 (c.toNat : Nat)]) = els')
    (hK : KE (.hnd i (ep + 1)) ((i, ep + 1, .row flr dr e els') :: [])) : OpS P B W o st KE := by
  have hes : P.cellsOf e = es := (slice_t hy hk).2.1
  subst hflr hdr hels hn1 he0
  subst hn
  have hln : ((b.map fun c => [T.int .u8 (c.toNat : Nat)])).length = b.length := by simp
  have hsrc : ∀ a w pl F, SimW P B W st a w pl F → SrcOk P B W st a w F x es (b.map fun c => [T.int .u8 (c.toNat : Nat)]) [] true := fun a w pl F h => by subst hes1; exact h.src_str hx
  have huni : ∀ a w pl F, SimW P B W st a w pl F → (∀ y ∈ (b.map fun c => [T.int .u8 (c.toNat : Nat)]), y.length = es) ∧ (true = true → ∀ y ∈ ((b.map fun c => [T.int .u8 (c.toNat : Nat)])).flatten, y.flat = true) := fun a w pl F h => by subst hes1; exact ⟨uni_str.1, fun _ => uni_str.2⟩
  exact OpS.append_hnd (ks := []) (fl := fl0 && true) (d := true) (d' := d0 && true) ho h1 h2 h3 hy hk hyx hkx hye hz hzl hs hl rfl hsrc (fun a w pl F h => ⟨(huni a w pl F h).1, fun hf => (huni a w pl F h).2 (Eq.mp (Bool.and_eq_true _ _) hf).2⟩) (fun x e h => by cases h) (by rw [hln]; exact hfit) (fun hf => (Eq.mp (Bool.and_eq_true _ _) hf).1) (fun hf => Eq.mp (Bool.and_eq_true _ _) hf) hK
theorem OpS.app_nil_hnd {s x : Operand} {c : Call} {t xt e es eb site ep : Nat} {y yx ye : Ty} {zs : List V} {fl d : Bool} {j ej e2 n : Nat} {els els' : List (List T)} {flr dr : Bool} (ho : o.op = .call c) (hd : o.dst = some site) (h1 : c.callee = .builtin .append) (h2 : c.args = #[s, x]) (h3 : c.argTypes = #[t, xt])
    (hy : tinfo P t = some y) (hk : y.k = .slice e es eb) (hyx : tinfo P xt = some yx) (hkx : yx.k = .str ∨ ∃ a b c, yx.k = .slice a b c) (hye : tinfo P e = some ye) (hz : ye.zero = some zs) (hzl : zs.length = es) (hs : st.ev s = .t .nil) (hx : st.ev x = .hnd j ej) (hlx : look st.objs j = some (ej, .row fl d e2 els)) (hfd : fl = true ∨ d = false) (he2 : e2 = e) (hn : els.length = n) (hfit : fits 0 n eb) (hflr : fl = flr) (hdr : fl = dr) (hels : els = els') (hep : nep (look st.objs site) = ep)
    (hK : KE (.hnd site ep) ((site, ep, .row flr dr e els') :: [])) : OpS P B W o st KE := by
  have hes : P.cellsOf e = es := (slice_t hy hk).2.1
  subst hflr hdr hels
  subst he2 hn
  have hln : (els).length = els.length := rfl
  have hsrc : ∀ a w pl F, SimW P B W st a w pl F → SrcOk P B W st a w F x es els [] fl := fun a w pl F h => by rw [← hes]; exact h.src_hnd hx hlx hfd
  have huni : ∀ a w pl F, SimW P B W st a w pl F → (∀ y ∈ els, y.length = es) ∧ (fl = true → ∀ y ∈ (els).flatten, y.flat = true) := fun a w pl F h => by rw [← hes]; exact uni_hnd h hlx
  exact OpS.append_nil (ks := []) (fl := fl) (d := fl) ho hd h1 h2 h3 hy hk hyx hkx hye hz hzl hs hsrc huni (fun x e h => by cases h) (by rw [hln]; exact hfit) hep hK
theorem OpS.app_hnd_hnd {s x : Operand} {c : Call} {t xt e e0 es eb i ep n1 : Nat} {y yx ye : Ty} {zs : List V} {els0 : List (List T)} {d0 fl0 : Bool} {fl d : Bool} {j ej e2 n : Nat} {els els' : List (List T)} {flr dr : Bool} (ho : o.op = .call c) (h1 : c.callee = .builtin .append) (h2 : c.args = #[s, x]) (h3 : c.argTypes = #[t, xt])
    (hy : tinfo P t = some y) (hk : y.k = .slice e es eb) (hyx : tinfo P xt = some yx) (hkx : yx.k = .str ∨ ∃ a b c, yx.k = .slice a b c) (hye : tinfo P e = some ye) (hz : ye.zero = some zs) (hzl : zs.length = es) (hs : st.ev s = .hnd i ep) (hl : look st.objs i = some (ep, .row fl0 d0 e0 els0)) (he0 : e0 = e) (hn1 : els0.length = n1) (hx : st.ev x = .hnd j ej) (hlx : look st.objs j = some (ej, .row fl d e2 els)) (hfd : fl = true ∨ d = false) (he2 : e2 = e) (hn : els.length = n) (hfit : fits n1 n eb) (hflr : (fl0 && fl) = flr) (hdr : (d0 && fl) = dr) (hels : els0 ++ els = els')
    (hK : KE (.hnd i (ep + 1)) ((i, ep + 1, .row flr dr e els') :: [])) : OpS P B W o st KE := by
  have hes : P.cellsOf e = es := (slice_t hy hk).2.1
  subst hflr hdr hels hn1 he0
  subst he2 hn
  have hln : (els).length = els.length := rfl
  have hsrc : ∀ a w pl F, SimW P B W st a w pl F → SrcOk P B W st a w F x es els [] fl := fun a w pl F h => by rw [← hes]; exact h.src_hnd hx hlx hfd
  have huni : ∀ a w pl F, SimW P B W st a w pl F → (∀ y ∈ els, y.length = es) ∧ (fl = true → ∀ y ∈ (els).flatten, y.flat = true) := fun a w pl F h => by rw [← hes]; exact uni_hnd h hlx
  exact OpS.append_hnd (ks := []) (fl := fl0 && fl) (d := fl) (d' := d0 && fl) ho h1 h2 h3 hy hk hyx hkx hye hz hzl hs hl rfl hsrc (fun a w pl F h => ⟨(huni a w pl F h).1, fun hf => (huni a w pl F h).2 (Eq.mp (Bool.and_eq_true _ _) hf).2⟩) (fun x e h => by cases h) (by rw [hln]; exact hfit) (fun hf => (Eq.mp (Bool.and_eq_true _ _) hf).1) (fun hf => Eq.mp (Bool.and_eq_true _ _) hf) hK
theorem OpS.app_nil_view {s x : Operand} {c : Call} {t xt e es eb site ep : Nat} {y yx ye : Ty} {zs : List V} {fl d : Bool} {j ej k0 n0 e2 n : Nat} {els els' : List (List T)} {flr dr : Bool} (ho : o.op = .call c) (hd : o.dst = some site) (h1 : c.callee = .builtin .append) (h2 : c.args = #[s, x]) (h3 : c.argTypes = #[t, xt])
    (hy : tinfo P t = some y) (hk : y.k = .slice e es eb) (hyx : tinfo P xt = some yx) (hkx : yx.k = .str ∨ ∃ a b c, yx.k = .slice a b c) (hye : tinfo P e = some ye) (hz : ye.zero = some zs) (hzl : zs.length = es) (hs : st.ev s = .t .nil) (hx : st.ev x = .view j ej k0 n0) (hlx : look st.objs j = some (ej, .row fl d e2 els)) (hfd : fl = true ∨ d = false) (he2 : e2 = e) (hjn : k0 + n0 ≤ els.length) (hn : n0 = n) (hfit : fits 0 n eb) (hflr : fl = flr) (hdr : fl = dr) (hels : ((els.drop k0).take n0) = els') (hep : nep (look st.objs site) = ep)
    (hK : KE (.hnd site ep) ((site, ep, .row flr dr e els') :: [])) : OpS P B W o st KE := by
  have hes : P.cellsOf e = es := (slice_t hy hk).2.1
  subst hflr hdr hels
  subst he2 hn
  have hln : (((els.drop k0).take n0)).length = n0 := by rw [List.length_take, List.length_drop]; omega
  have hsrc : ∀ a w pl F, SimW P B W st a w pl F → SrcOk P B W st a w F x es ((els.drop k0).take n0) [] fl := fun a w pl F h => by rw [← hes]; exact h.src_view hx hlx hfd hjn
  have huni : ∀ a w pl F, SimW P B W st a w pl F → (∀ y ∈ ((els.drop k0).take n0), y.length = es) ∧ (fl = true → ∀ y ∈ (((els.drop k0).take n0)).flatten, y.flat = true) := fun a w pl F h => by rw [← hes]; exact ⟨fun x hx => (uni_hnd h hlx).1 x (cut_mem hx), fun hf x hx => (uni_hnd h hlx).2 hf x (cut_flat hx)⟩
  exact OpS.append_nil (ks := []) (fl := fl) (d := fl) ho hd h1 h2 h3 hy hk hyx hkx hye hz hzl hs hsrc huni (fun x e h => by cases h) (by rw [hln]; exact hfit) hep hK
theorem OpS.app_hnd_view {s x : Operand} {c : Call} {t xt e e0 es eb i ep n1 : Nat} {y yx ye : Ty} {zs : List V} {els0 : List (List T)} {d0 fl0 : Bool} {fl d : Bool} {j ej k0 n0 e2 n : Nat} {els els' : List (List T)} {flr dr : Bool} (ho : o.op = .call c) (h1 : c.callee = .builtin .append) (h2 : c.args = #[s, x]) (h3 : c.argTypes = #[t, xt])
    (hy : tinfo P t = some y) (hk : y.k = .slice e es eb) (hyx : tinfo P xt = some yx) (hkx : yx.k = .str ∨ ∃ a b c, yx.k = .slice a b c) (hye : tinfo P e = some ye) (hz : ye.zero = some zs) (hzl : zs.length = es) (hs : st.ev s = .hnd i ep) (hl : look st.objs i = some (ep, .row fl0 d0 e0 els0)) (he0 : e0 = e) (hn1 : els0.length = n1) (hx : st.ev x = .view j ej k0 n0) (hlx : look st.objs j = some (ej, .row fl d e2 els)) (hfd : fl = true ∨ d = false) (he2 : e2 = e) (hjn : k0 + n0 ≤ els.length) (hn : n0 = n) (hfit : fits n1 n eb) (hflr : (fl0 && fl) = flr) (hdr : (d0 && fl) = dr) (hels : els0 ++ ((els.drop k0).take n0) = els')
    (hK : KE (.hnd i (ep + 1)) ((i, ep + 1, .row flr dr e els') :: [])) : OpS P B W o st KE := by
  have hes : P.cellsOf e = es := (slice_t hy hk).2.1
  subst hflr hdr hels hn1 he0
  subst he2 hn
  have hln : (((els.drop k0).take n0)).length = n0 := by rw [List.length_take, List.length_drop]; omega
  have hsrc : ∀ a w pl F, SimW P B W st a w pl F → SrcOk P B W st a w F x es ((els.drop k0).take n0) [] fl := fun a w pl F h => by rw [← hes]; exact h.src_view hx hlx hfd hjn
  have huni : ∀ a w pl F, SimW P B W st a w pl F → (∀ y ∈ ((els.drop k0).take n0), y.length = es) ∧ (fl = true → ∀ y ∈ (((els.drop k0).take n0)).flatten, y.flat = true) := fun a w pl F h => by rw [← hes]; exact ⟨fun x hx => (uni_hnd h hlx).1 x (cut_mem hx), fun hf x hx => (uni_hnd h hlx).2 hf x (cut_flat hx)⟩
  exact OpS.append_hnd (ks := []) (fl := fl0 && fl) (d := fl) (d' := d0 && fl) ho h1 h2 h3 hy hk hyx hkx hye hz hzl hs hl rfl hsrc (fun a w pl F h => ⟨(huni a w pl F h).1, fun hf => (huni a w pl F h).2 (Eq.mp (Bool.and_eq_true _ _) hf).2⟩) (fun x e h => by cases h) (by rw [hln]; exact hfit) (fun hf => (Eq.mp (Bool.and_eq_true _ _) hf).1) (fun hf => Eq.mp (Bool.and_eq_true _ _) hf) hK
theorem OpS.app_nil_move {s x : Operand} {c : Call} {t xt e es eb site ep : Nat} {y yx ye : Ty} {zs : List V} {fl : Bool} {j ej e2 n : Nat} {els els' : List (List T)} {flr dr : Bool} (ho : o.op = .call c) (hd : o.dst = some site) (h1 : c.callee = .builtin .append) (h2 : c.args = #[s, x]) (h3 : c.argTypes = #[t, xt])
    (hy : tinfo P t = some y) (hk : y.k = .slice e es eb) (hyx : tinfo P xt = some yx) (hkx : yx.k = .str ∨ ∃ a b c, yx.k = .slice a b c) (hye : tinfo P e = some ye) (hz : ye.zero = some zs) (hzl : zs.length = es) (hs : st.ev s = .t .nil) (hx : st.ev x = .hnd j ej) (hlx : look st.objs j = some (ej, .row fl true e2 els)) (he2 : e2 = e) (hn : els.length = n) (hne0 : Nat.beq j site = false) (hfit : fits 0 n eb) (hflr : fl = flr) (hdr : true = dr) (hels : els = els') (hep : nep (look st.objs site) = ep)
    (hK : KE (.hnd site ep) ((site, ep, .row flr dr e els') :: [(j, ej + 1, .gone)])) : OpS P B W o st KE := by
  have hes : P.cellsOf e = es := (slice_t hy hk).2.1
  have hne := Nat.ne_of_beq_eq_false hne0
  subst hflr hdr hels
  subst he2 hn
  have hln : (els).length = els.length := rfl
  have hsrc : ∀ a w pl F, SimW P B W st a w pl F → SrcOk P B W st a w F x es els [(j, ej)] true := fun a w pl F h => by rw [← hes]; exact h.src_move hx hlx
  have huni : ∀ a w pl F, SimW P B W st a w pl F → (∀ y ∈ els, y.length = es) ∧ (fl = true → ∀ y ∈ (els).flatten, y.flat = true) := fun a w pl F h => by rw [← hes]; exact uni_hnd h hlx
  exact OpS.append_nil (ks := [(j, ej)]) (fl := fl) (d := true) ho hd h1 h2 h3 hy hk hyx hkx hye hz hzl hs hsrc huni (fun x e h => by simp at h; obtain ⟨rfl, _⟩ := h; exact hne) (by rw [hln]; exact hfit) hep hK
theorem OpS.app_hnd_move {s x : Operand} {c : Call} {t xt e e0 es eb i ep n1 : Nat} {y yx ye : Ty} {zs : List V} {els0 : List (List T)} {d0 fl0 : Bool} {fl : Bool} {j ej e2 n : Nat} {els els' : List (List T)} {flr dr : Bool} (ho : o.op = .call c) (h1 : c.callee = .builtin .append) (h2 : c.args = #[s, x]) (h3 : c.argTypes = #[t, xt])
    (hy : tinfo P t = some y) (hk : y.k = .slice e es eb) (hyx : tinfo P xt = some yx) (hkx : yx.k = .str ∨ ∃ a b c, yx.k = .slice a b c) (hye : tinfo P e = some ye) (hz : ye.zero = some zs) (hzl : zs.length = es) (hs : st.ev s = .hnd i ep) (hl : look st.objs i = some (ep, .row fl0 d0 e0 els0)) (he0 : e0 = e) (hn1 : els0.length = n1) (hx : st.ev x = .hnd j ej) (hlx : look st.objs j = some (ej, .row fl true e2 els)) (he2 : e2 = e) (hn : els.length = n) (hne0 : Nat.beq j i = false) (hfit : fits n1 n eb) (hflr : (fl0 && fl) = flr) (hdr : (d0 && true) = dr) (hels : els0 ++ els = els')
    (hK : KE (.hnd i (ep + 1)) ((i, ep + 1, .row flr dr e els') :: [(j, ej + 1, .gone)])) : OpS P B W o st KE := by
  have hes : P.cellsOf e = es := (slice_t hy hk).2.1
  have hne := Nat.ne_of_beq_eq_false hne0
  subst hflr hdr hels hn1 he0
  subst he2 hn
  have hln : (els).length = els.length := rfl
  have hsrc : ∀ a w pl F, SimW P B W st a w pl F → SrcOk P B W st a w F x es els [(j, ej)] true := fun a w pl F h => by rw [← hes]; exact h.src_move hx hlx
  have huni : ∀ a w pl F, SimW P B W st a w pl F → (∀ y ∈ els, y.length = es) ∧ (fl = true → ∀ y ∈ (els).flatten, y.flat = true) := fun a w pl F h => by rw [← hes]; exact uni_hnd h hlx
  exact OpS.append_hnd (ks := [(j, ej)]) (fl := fl0 && fl) (d := true) (d' := d0 && true) ho h1 h2 h3 hy hk hyx hkx hye hz hzl hs hl rfl hsrc (fun a w pl F h => ⟨(huni a w pl F h).1, fun hf => (huni a w pl F h).2 (Eq.mp (Bool.and_eq_true _ _) hf).2⟩) (fun x e h => by simp at h; obtain ⟨rfl, _⟩ := h; exact hne) (by rw [hln]; exact hfit) (fun hf => (Eq.mp (Bool.and_eq_true _ _) hf).1) (fun hf => Eq.mp (Bool.and_eq_true _ _) hf) hK
/-! ### Orders, by what has been done -/
theorem aA.cut {os : List Nat} {ops : Array Oper} {n0 n : Nat} {ls0 ls : Array Bool} {K : St → Prop} {st0 s : St} (rest : aA P B W ops os n ls K s → aA P B W ops os n0 ls0 K st0) (main : aA P B W ops os n ls K s) : aA P B W ops os n0 ls0 K st0 := rest main
theorem aA.to {os : List Nat} {ops : Array Oper} {n n' : Nat} {ls ls' : Array Bool} {K : St → Prop} {s : St} (hl : ls = ls') (hn : n = n') (h : aA P B W ops os n' ls' K s) : aA P B W ops os n ls K s := by subst hl hn; exact h
theorem aA.weak {os : List Nat} {ops : Array Oper} {n : Nat} {ls : Array Bool} {K : St → Prop} {s s' : St} (h : aA P B W ops os n ls K s') (hl : Le s s') : aA P B W ops os n ls K s := fun w0 X a w pl F hs hX => by
  obtain hs' := hs.weak hl
  refine h w0 X a w pl F hs' fun b hb => ?_
  obtain ⟨h1, h2⟩ := hX b hb
  refine ⟨?_, h2⟩
  rcases h1 with h1 | ⟨i, hi, x, hx, hf⟩
  · exact .inl ⟨h1.1, h1.2.1, fun o x ho => h1.2.2 o x (hl.objs o x ho)⟩
  · cases hy : look s'.objs i with
    | some y => exact .inr ⟨i, hi, y, hy, hf⟩
    | none =>
      have hr := hs.range i x b hx hf
      refine .inl ⟨.inr hr.1, hr.2, fun o z hz hfz => ?_⟩
      have hne : i ≠ o := fun e => by rw [e, hz] at hy; cases hy
      exact hs.apart i o x z b hne hx (hl.objs o z hz) hf hfz
end
end Go.Proofs.Ytmkpgcahmbancaa.Ab
