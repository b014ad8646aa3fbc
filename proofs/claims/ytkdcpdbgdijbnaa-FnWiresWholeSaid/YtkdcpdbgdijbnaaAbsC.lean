/- What is proved: the calculus of abstract states: conversions, stores into rows.
   Conditions: none beyond those that each lemma names. -/
import Derived.Test.YtkdcpdbgdijbnaaAbsA
import Derived.Laws.IdiomStrings
namespace Go.Proofs.Ytkdcpdbgdijbnaa.Ab
open Go.RowKit

theorem notT {b : Bool} (h : b = false) : (!b) = true := by rw [h]; rfl
theorem notF {b : Bool} (h : b = true) : (!b) = false := by rw [h]; rfl
theorem int_t {P : Program} {t : TypeId} {y : Ty} {k : IntKind} (h : tinfo P t = some y) (hk : y.k = .int k) : P.underlying t = some (.int k) := by
  obtain ⟨d, i, hd, hi, hk', _⟩ := tinfo_parts h
  rw [hk'] at hk
  cases d <;> simp [kdOf] at hk
  subst hk; exact hd
theorem str_t {P : Program} {t : TypeId} {y : Ty} (h : tinfo P t = some y) (hk : y.k = .str) : P.underlying t = some .string := by
  obtain ⟨d, i, hd, hi, hk', _⟩ := tinfo_parts h
  rw [hk'] at hk
  cases d <;> simp [kdOf] at hk
  exact hd
theorem some_t {P : Program} {t : TypeId} {y : Ty} (h : tinfo P t = some y) : ∃ d, P.underlying t = some d := by
  obtain ⟨d, i, hd, _⟩ := tinfo_parts h
  exact ⟨d, hd⟩

/-! ### Conversions -/
section
variable {P : Program} {B : Nat → Prop} {W : En} {o : Oper} {os : List Nat} {st : St} {KE : V → List (Nat × Nat × Ob) → Prop}
theorem exec_convert {src dst : TypeId} {x : Operand} {a : Act} {w w' : World} {u : Value} (ho : o.op = .convert src dst x) (h : (convert src dst (a.eval x)).run P w = .ok u w') : (execOp a.eval o).run P w = .ok (.value u) w' := by
  unfold execOp
  rw [ho]
  exact exec_value h
theorem run_convert_i {src dst : TypeId} {k k' : IntKind} {n : Int} {ys yd : Ty} (hs : tinfo P src = some ys) (hd : tinfo P dst = some yd) (hk : yd.k = .int k') (w : World) : (convert src dst (.int k n)).run P w = .ok (.int k' (k'.wrap n)) w := by
  obtain ⟨d, hd'⟩ := some_t hs
  simp [convert, run_underlying hd', run_underlying (int_t hd hk), Conv.intToInt]
theorem OpQ.conv_int {src dst : TypeId} {x : Operand} {k k' : IntKind} {n : Int} {ys yd : Ty} (ho : o.op = .convert src dst x) (hx : st.ev x = .t (.int k n)) (hs : tinfo P src = some ys) (hd : tinfo P dst = some yd) (hk : yd.k = .int k') (hK : KE (.t (.int k' (k'.wrap n))) []) : OpQ P B W o os st KE :=
  OpQ.pure_ hK fun a w pl F h => ⟨_, fun w' => exec_convert ho (by rw [(h.int_at hx).1]; exact run_convert_i hs hd hk w'), Rd.int (wf_wrap _ _)⟩
theorem OpQ.s (h : OpQ P B W o [] st KE) : OpS P B W o st KE := by
  obtain ⟨v, hK, h⟩ := h
  exact OpS.pure_ hK fun a w pl F hs => by
    obtain ⟨u, h1, h2⟩ := h a w pl F hs
    exact ⟨u, h1 w fun _ _ => rfl, h2⟩
theorem OpS.conv_int {src dst : TypeId} {x : Operand} {k k' : IntKind} {n : Int} {ys yd : Ty} (ho : o.op = .convert src dst x) (hx : st.ev x = .t (.int k n)) (hs : tinfo P src = some ys) (hd : tinfo P dst = some yd) (hk : yd.k = .int k') (hK : KE (.t (.int k' (k'.wrap n))) []) : OpS P B W o st KE :=
  (OpQ.conv_int ho hx hs hd hk hK).s
theorem wrap_in {k : IntKind} {n : Int} (h : (Lit.int k n).wf = true) : k.wrap n = n := by
  simp only [Lit.wf, Bool.and_eq_true, decide_eq_true_eq] at h
  revert h
  cases k <;> simp [IntKind.wrap, IntKind.min, IntKind.max, IntKind.signed, IntKind.bits] <;> intro h1 h2 <;> omega
theorem OpQ.conv_id {src dst : TypeId} {x : Operand} {k k' : IntKind} {n : Int} {ys yd : Ty} (ho : o.op = .convert src dst x) (hx : st.ev x = .t (.int k n)) (hs : tinfo P src = some ys) (hd : tinfo P dst = some yd) (hk : yd.k = .int k') (hn : k'.min ≤ n ∧ n ≤ k'.max) (hK : KE (.t (.int k' n)) []) : OpQ P B W o os st KE :=
  OpQ.conv_int ho hx hs hd hk (by rw [wrap_in (by simp only [Lit.wf, Bool.and_eq_true, decide_eq_true_eq]; exact hn)]; exact hK)
theorem OpS.conv_id {src dst : TypeId} {x : Operand} {k k' : IntKind} {n : Int} {ys yd : Ty} (ho : o.op = .convert src dst x) (hx : st.ev x = .t (.int k n)) (hs : tinfo P src = some ys) (hd : tinfo P dst = some yd) (hk : yd.k = .int k') (hn : k'.min ≤ n ∧ n ≤ k'.max) (hK : KE (.t (.int k' n)) []) : OpS P B W o st KE :=
  (OpQ.conv_id ho hx hs hd hk hn hK).s
/-- The bytes of a string, as a row's elements. -/
def bytesE (s : List UInt8) : List (List T) := s.map fun c => [.int .u8 (c.toNat : Nat)]
theorem bytesE_flat {s : List UInt8} : ∀ x ∈ (bytesE s).flatten, x.flat = true := by
  intro x hx
  obtain ⟨l, hl, hx⟩ := List.mem_flatten.1 hx
  obtain ⟨c, _, rfl⟩ := List.mem_map.1 hl
  cases List.mem_singleton.1 hx; rfl
theorem bytesE_flatten : ∀ (s : List UInt8), (bytesE s).flatten = s.map fun c => .int .u8 (c.toNat : Nat)
  | [] => rfl
  | c :: s => by
    show [T.int .u8 _] ++ (bytesE s).flatten = _
    rw [bytesE_flatten s]; rfl
theorem OpS.conv_bytes {src dst : TypeId} {x : Operand} {s : List UInt8} {ys yd ye : Ty} {e eb site ep : Nat} (ho : o.op = .convert src dst x) (hdst : o.dst = some site) (hx : st.ev x = .t (.str s)) (hs : tinfo P src = some ys) (hks : ys.k = .str) (hd : tinfo P dst = some yd) (hk : yd.k = .slice e 1 eb) (he : tinfo P e = some ye) (hke : ye.k = .int .u8)
    (hep : nep (look st.objs site) = ep) (hK : KE (.hnd site ep) [(site, ep, .row true true e (bytesE s))]) : OpS P B W o st KE := by
  obtain ⟨h1, h2, h3⟩ := slice_t hd hk
  refine OpS.newrow (ks := []) (els := bytesE s) hep (fun x e h => by cases h) (fun y hy => ?_) (fun _ => bytesE_flat) hK fun a w pl F h => ?_
  · obtain ⟨c, _, rfl⟩ := List.mem_map.1 hy; rw [h2]; rfl
  · obtain ⟨g1, g2⟩ := h.str_at hx
    have hr := run_bytes_of_string w src dst e (bs s) (str_t hs hks) h1 (int_t he hke)
    have hge := grownCap_ge w (bs s).size 0 e
    have hlm := grownCap_le_maxLen w (bs s).size 0 e (by rw [bs_size]; exact g2)
    rw [bs_size] at hge hlm hr
    have hlen : (bytesE s).length = s.length := List.length_map _
    have hsz : (bytesRow (bs s) (grownCap w s.length 0 e)).size = grownCap w s.length 0 e := by
      simp [bytesRow, bs, ByteArray.size]; omega
    refine ⟨s.map fun c => .int .u8 (c.toNat : Nat), _, _, exec_convert ho (by rw [g1]; exact hr), ?_, ?_, fun b hb => ?_, ?_⟩
    · exact ⟨rfl, rfl, rfl, by show w.heap.size ≤ (w.heap.push _).size; simp, fun k hk => by
        show (w.heap.push _)[k]? = _
        rw [Array.getElem?_push, if_neg (by omega)]⟩
    · rw [hlen, h2]
      refine ⟨by simp, .inr ⟨w.heap.size, 0, grownCap w s.length 0 e, bytesRow (bs s) (grownCap w s.length 0 e), ((bytesRow (bs s) (grownCap w s.length 0 e)).size, (bytesRow (bs s) (grownCap w s.length 0 e)).size + 1), rfl, ?_, .inr (Nat.le_refl _), hge, hlm, by rw [hsz]; simp, ?_⟩⟩
      · show (w.heap.push _)[w.heap.size]? = _
        simp
      · simp [bytesRow, bs]
    · cases hb
      exact ⟨Nat.le_refl _, by show w.heap.size < (w.heap.push _).size; simp⟩
    · refine cv_flat ?_ bytesE_flat true
      rw [bytesE_flatten]
      refine ⟨by simp, fun k c u hc hu => ?_⟩
      rw [List.getElem?_map, Option.map_eq_some_iff] at hc hu
      obtain ⟨b, hb, rfl⟩ := hc
      obtain ⟨b', hb', rfl⟩ := hu
      rw [hb] at hb'
      cases hb'
      exact Rd.int (wf_u8 b)
/-- What bytes stand in a row's elements. -/
def byteOf : List T → UInt8
  | [.int _ n] => UInt8.ofNat n.toNat
  | _ => 0
def isByte : List T → Bool
  | [.int k _] => (match k with | .u8 => true | _ => false)
  | _ => false
theorem isByte_of {x : List T} (h : isByte x = true) : ∃ n, x = [.int .u8 n] := by
  unfold isByte at h
  split at h
  · rename_i k n
    cases k <;> first | exact ⟨n, rfl⟩ | cases h
  · cases h
theorem byteOf_back {n : Int} (h : (Lit.int .u8 n).wf = true) : ((UInt8.ofNat n.toNat).toNat : Int) = n := by
  simp only [Lit.wf, IntKind.min, IntKind.max, IntKind.signed, IntKind.bits] at h
  simp at h
  simp
  omega
theorem run_conv_str {src dst : TypeId} {ys yd ye : Ty} {e eb : Nat} (hs : tinfo P src = some ys) (hks : ys.k = .slice e 1 eb) (hd : tinfo P dst = some yd) (hk : yd.k = .str) (he : tinfo P e = some ye) (hke : ye.k = .int .u8) {w : World} {A : Option Addr} {c : Nat} {l : List UInt8}
    (hc : l ≠ [] → ∃ ad, A = some ad ∧ ∀ j (hj : j < l.length), w.cell? (ad.add j) = some (.int .u8 (l[j].toNat : Int))) : (convert src dst (.slice A l.length c)).run P w = .ok (.string (bs l)) w := by
  obtain ⟨h1, h2, h3⟩ := slice_t hs hks
  by_cases hn : l = []
  · subst hn
    show (convert src dst (.slice A 0 c)).run P w = _
    rw [run_convert_bytes_string w src dst e A 0 c h1 (int_t he hke) (str_t hd hk)]
    cases A with
    | none => simp [Conv.bytesToString, bs]; rfl
    | some ad => simp [Conv.bytesToString, bs, loadCells]; rfl
  · obtain ⟨ad, e1, hc2⟩ := hc hn
    subst e1
    exact run_convert_bytes_back w src dst e ad c l h1 (int_t he hke) (str_t hd hk) hc2
theorem flatten_one {l : List (List T)} (h : ∀ x ∈ l, isByte x = true) (j : Nat) (hj : j < l.length) : ∃ n, l.flatten[j]? = some (.int .u8 n) ∧ l.getD j [] = [.int .u8 n] := by
  have hu : ∀ x ∈ l, x.length = 1 := fun x hx => by obtain ⟨n, rfl⟩ := isByte_of (h x hx); rfl
  obtain ⟨n, hn⟩ := isByte_of (h _ (getD_mem hj))
  have := flatten_at hu hj (Nat.zero_lt_one)
  rw [Nat.mul_one, Nat.add_zero, hn] at this
  exact ⟨n, this, hn⟩
theorem conv_cells {P : Program} {w : World} {B : Nat → Prop} {els : List (List T)} {us : List Value} {A : Option Addr} (hb : ∀ x ∈ els, isByte x = true) (hl : els.flatten.length = us.length) (hm : us ≠ [] → ∃ ad, A = some ad ∧ ∀ k u, us[k]? = some u → w.cell? (ad.add k) = some u) (hr : ∀ (k : Nat) (x : T) (u : Value), els.flatten[k]? = some x → us[k]? = some u → Rd P w B x u) :
    els.map byteOf ≠ [] → ∃ ad, A = some ad ∧ ∀ j (hj : j < (els.map byteOf).length), w.cell? (ad.add j) = some (.int .u8 ((els.map byteOf)[j].toNat : Int)) := fun hn => by
  have hu1 : ∀ x ∈ els, x.length = 1 := fun x hx => by obtain ⟨n, rfl⟩ := isByte_of (hb x hx); rfl
  have hlen : us.length = els.length := by rw [← hl, flatten_len hu1, Nat.mul_one]
  have hpos : 0 < els.length := List.length_pos_iff.2 fun e => hn (by rw [e]; rfl)
  obtain ⟨ad, rfl, hc⟩ := hm fun e => by rw [e] at hlen; simp at hlen; omega
  refine ⟨ad, rfl, fun j hj => ?_⟩
  have hj' : j < els.length := by simpa using hj
  obtain ⟨n, h1, h2⟩ := flatten_one hb j hj'
  have hju : j < us.length := by omega
  have h3 := hr j _ _ h1 (List.getElem?_eq_getElem hju)
  rw [hc j _ (List.getElem?_eq_getElem hju)]
  have h4 : els[j] = [.int .u8 n] := by rw [← h2, List.getD_eq_getElem?_getD, List.getElem?_eq_getElem hj']; rfl
  generalize us[j] = u at h3
  cases h3 with
  | int hw =>
    rw [List.getElem_map, h4]
    show some (Value.int .u8 n) = some (.int .u8 ((UInt8.ofNat n.toNat).toNat : Int))
    rw [byteOf_back hw]
theorem isB_bytes {s : List UInt8} : ∀ x ∈ bytesE s, isByte x = true := by
  intro x hx
  obtain ⟨c, _, rfl⟩ := List.mem_map.1 hx
  rfl
theorem isB_set {els : List (List T)} {n : Nat} {c : List T} (h : ∀ x ∈ els, isByte x = true) (hc : isByte c = true) : ∀ x ∈ els.set n c, isByte x = true := by
  intro x hx
  rcases List.mem_or_eq_of_mem_set hx with hx | rfl
  · exact h x hx
  · exact hc
theorem isB_app {a b : List (List T)} (ha : ∀ x ∈ a, isByte x = true) (hb : ∀ x ∈ b, isByte x = true) : ∀ x ∈ a ++ b, isByte x = true := by
  intro x hx
  rcases List.mem_append.1 hx with hx | hx
  · exact ha x hx
  · exact hb x hx
theorem isB_one {c : List T} (hc : isByte c = true) : ∀ x ∈ [c], isByte x = true := by
  intro x hx
  rw [List.mem_singleton.1 hx]
  exact hc
theorem isB_nil : ∀ x ∈ ([] : List (List T)), isByte x = true := fun x hx => by cases hx
theorem isB_cons {c : List T} {r : List (List T)} (hc : isByte c = true) (hr : ∀ x ∈ r, isByte x = true) : ∀ x ∈ c :: r, isByte x = true := by
  intro x hx
  rcases List.mem_cons.1 hx with rfl | hx
  · exact hc
  · exact hr x hx
theorem isB_str {b : List UInt8} : ∀ x ∈ b.map (fun c => [T.int .u8 (c.toNat : Nat)]), isByte x = true := isB_bytes
/-- A row of bytes as a string. -/
theorem OpS.conv_str {src dst : TypeId} {x : Operand} {i ep : Nat} {fl d : Bool} {els : List (List T)} {ys yd ye : Ty} {e e' eb : Nat} (ho : o.op = .convert src dst x) (hx : st.ev x = .hnd i ep) (hl : look st.objs i = some (ep, .row fl d e' els)) (hs : tinfo P src = some ys) (hks : ys.k = .slice e 1 eb) (hd : tinfo P dst = some yd) (hk : yd.k = .str) (he : tinfo P e = some ye) (hke : ye.k = .int .u8)
    (hb : ∀ x ∈ els, isByte x = true) (hK : KE (.t (.str (els.map byteOf))) []) : OpS P B W o st KE :=
  OpS.pure_ hK fun a w pl F h => by
    obtain ⟨g1, us, hp⟩ := h.hnd_at hx hl
    obtain ⟨A, c, g2, g3, g4, g5⟩ := hp.slice
    have hlen : (els.map byteOf).length = els.length := List.length_map _
    refine ⟨.string (bs (els.map byteOf)), exec_convert ho ?_, Rd.str (by rw [hlen]; omega)⟩
    rw [g1, g2, ← hlen]
    refine run_conv_str hs hks hd hk he hke (conv_cells hb hp.len (fun hn => ?_) hp.rd)
    obtain ⟨g, off, rfl, _, _, h6⟩ := g5 hn
    exact ⟨_, rfl, fun k u hu => by rw [add_lit0]; exact h6 k u hu⟩
theorem OpS.conv_str_lst {src dst : TypeId} {x : Operand} {fl : Bool} {els : List (List T)} {ys yd ye : Ty} {e e' eb : Nat} (ho : o.op = .convert src dst x) (hx : st.ev x = .t (.lst fl e' els)) (hs : tinfo P src = some ys) (hks : ys.k = .slice e 1 eb) (hd : tinfo P dst = some yd) (hk : yd.k = .str) (he : tinfo P e = some ye) (hke : ye.k = .int .u8)
    (hb : ∀ x ∈ els, isByte x = true) (hK : KE (.t (.str (els.map byteOf))) []) : OpS P B W o st KE :=
  OpS.pure_ hK fun a w pl F h => by
    obtain ⟨A, c, us, g1, g2, g3, g4, g5, g6, g7, g8⟩ := h.lst_at hx
    have hlen : (els.map byteOf).length = els.length := List.length_map _
    refine ⟨.string (bs (els.map byteOf)), exec_convert ho ?_, Rd.str (by rw [hlen]; omega)⟩
    rw [g1, ← hlen]
    refine run_conv_str hs hks hd hk he hke (conv_cells hb g6 (fun hn => ?_) g8)
    obtain ⟨ad, e1, _, e2⟩ := g7 hn
    exact ⟨ad, e1, e2⟩
theorem OpS.conv_str_nil {src dst : TypeId} {x : Operand} {ys yd ye : Ty} {e eb : Nat} (ho : o.op = .convert src dst x) (hx : st.ev x = .t .nil) (hs : tinfo P src = some ys) (hks : ys.k = .slice e 1 eb) (hd : tinfo P dst = some yd) (hk : yd.k = .str) (he : tinfo P e = some ye) (hke : ye.k = .int .u8)
    (hK : KE (.t (.str [])) []) : OpS P B W o st KE :=
  OpS.pure_ hK fun a w pl F h => by
    refine ⟨.string (bs []), exec_convert ho ?_, Rd.str (by simp)⟩
    rw [h.nil_at hx]
    exact run_conv_str (l := []) hs hks hd hk he hke fun h => absurd rfl h

/-! ### Stores into rows -/
theorem setRange_get {α : Type} (cs vs : List α) (off k : Nat) (h : off + vs.length ≤ cs.length) : (setRange cs off vs)[k]? = if off ≤ k ∧ k < off + vs.length then vs[k - off]? else cs[k]? := by
  unfold setRange
  by_cases h1 : k < off
  · rw [if_neg (by omega), List.getElem?_append_left (by simp; omega), List.getElem?_append_left (by simp; omega), List.getElem?_take, if_pos h1]
  · by_cases h2 : k < off + vs.length
    · rw [if_pos ⟨by omega, h2⟩, List.getElem?_append_left (by simp; omega), List.getElem?_append_right (by simp; omega)]
      congr 1
      simp; omega
    · rw [if_neg (by omega), List.getElem?_append_right (by simp; omega), List.getElem?_drop]
      congr 1
      simp; omega
theorem setRange_len {α : Type} (cs vs : List α) (off : Nat) (h : off + vs.length ≤ cs.length) : (setRange cs off vs).length = cs.length := by
  unfold setRange; simp; omega
theorem setRange_take {α : Type} (cs vs : List α) (off n : Nat) (h : off + vs.length ≤ n) (hn : n ≤ cs.length) : (setRange cs off vs).take n = setRange (cs.take n) off vs := by
  apply List.ext_getElem?
  intro k
  rw [setRange_get _ _ _ _ (by simp; omega), List.getElem?_take, setRange_get _ _ _ _ (by omega), List.getElem?_take]
  by_cases hk : k < n
  · simp [hk]
  · rw [if_neg hk, if_neg hk, if_neg (by omega)]
theorem flatten_set {α : Type} {s : Nat} : ∀ {els : List (List α)} (_ : ∀ x ∈ els, x.length = s) {n : Nat} (_ : n < els.length) {off : Nat} {ts : List α} (_ : off + ts.length ≤ s), (els.set n (setRange (els.getD n []) off ts)).flatten = setRange els.flatten (n * s + off) ts
  | [], _, n, hn, _, _, _ => by simp at hn
  | x :: els, hu, 0, _, off, ts, ho => by
    have hx := hu x (by simp)
    simp only [List.set_cons_zero, List.flatten_cons, List.getD_cons_zero, Nat.zero_mul, Nat.zero_add]
    unfold setRange
    rw [List.take_append_of_le_length (by omega), List.drop_append_of_le_length (by omega), List.append_assoc (x.take off ++ ts)]
  | x :: els, hu, n + 1, hn, off, ts, ho => by
    have hx := hu x (by simp)
    have ih := flatten_set (els := els) (fun y hy => hu y (by simp [hy])) (n := n) (by simpa using hn) ho
    simp only [List.set_cons_succ, List.flatten_cons, List.getD_cons_succ]
    rw [ih]
    unfold setRange
    have e1 : (n + 1) * s + off = x.length + (n * s + off) := by rw [Nat.add_mul, hx]; omega
    rw [e1, List.take_length_add_append, Nat.add_assoc x.length, List.drop_length_add_append]
    simp
def flatT : List V → Option (List T)
  | [] => some []
  | .t x :: r => match x.flat with | true => (match flatT r with | some ts => some (x :: ts) | none => none) | false => none
  | _ => none
theorem getD_map {α : Type} [Inhabited α] {f : α → List T} {xs : List α} {m : Nat} (h : m < xs.length) : (xs.map f).getD m [] = f (xs.getD m default) := by simp [h]
theorem flatT_eq : ∀ {vs : List V} {ts : List T}, flatT vs = some ts → vs = ts.map .t ∧ ∀ x ∈ ts, x.flat = true
  | [], ts, h => by cases h; exact ⟨rfl, fun _ h => by cases h⟩
  | v :: r, ts, h => by
    cases v with
    | t x =>
      simp only [flatT] at h
      split at h
      · rename_i hf
        split at h
        · rename_i ts' hr
          cases h
          obtain ⟨h1, h2⟩ := flatT_eq hr
          refine ⟨by rw [h1]; rfl, fun y hy => ?_⟩
          rcases List.mem_cons.1 hy with rfl | hy
          · exact hf
          · exact h2 y hy
        · cases h
      · cases h
    | _ => cases h
theorem setRange_drop {α : Type} (cs : List α) (b q : Nat) (vs : List α) (h : b + q ≤ cs.length) : (setRange cs (b + q) vs).drop b = setRange (cs.drop b) q vs := by
  unfold setRange
  rw [List.append_assoc, List.drop_append_of_le_length (by rw [List.length_take]; omega), List.drop_take, Nat.add_sub_cancel_left, List.drop_drop, Nat.add_assoc, List.append_assoc]
theorem OpS.store_elem {ty : TypeId} {x z : Operand} {i ep n off : Nat} {fl d : Bool} {e : TypeId} {els : List (List T)} {y : Ty} {v : V} {ts cs : List T} (ho : o.op = .store ty x z) (hx : st.ev x = .ptr i ep n off) (hl : look st.objs i = some (ep, .row fl d e els)) (hy : tinfo P ty = some y)
    (hz : st.ev z = v) (hs : (cellsV v).all V.sto = true) (hts : flatT (cellsV v) = some ts) (hn : (cellsV v).length = y.size) (hlt : n < els.length) (hc : els.getD n [] = cs) {ye : Ty} (hye : tinfo P e = some ye) (hle : Nat.ble (off + ts.length) ye.size = true) (hpos : Nat.beq y.size 0 = false) (hK : KE (.lit undef) [(i, ep, .row fl d e (els.set n (setRange cs off ts)))]) : OpS P B W o st KE := by
  subst hz hc
  have hle : off + ts.length ≤ P.cellsOf e := by rw [cellsOf_t hye]; exact Nat.le_of_ble_eq_true hle
  have hpos : y.size ≠ 0 := Nat.ne_of_beq_eq_false hpos
  obtain ⟨hv, hf⟩ := flatT_eq hts
  refine OpS.chg (ks := []) hK (fun x e h => by cases h) fun a w pl F h => ?_
  have h1 := h.ev x
  rw [hx] at h1
  obtain ⟨_, ep', ob, h2, h3, h4⟩ : C0 P w (look st.objs) pl (Free B W.o (look st.objs) F w) (.ptr i ep n off) (a.eval x) := h1
  rw [hl] at h2
  cases h2
  obtain ⟨g, bb, hg, hu⟩ := h4 rfl
  have hob := h.objs i _ _ hl
  obtain ⟨us0, hp⟩ := row_parts hob
  have huni := hp.uni
  have hnL : n * P.cellsOf e + P.cellsOf e ≤ els.length * P.cellsOf e := by rw [← Nat.succ_mul]; exact Nat.mul_le_mul_right _ hlt
  obtain ⟨vs, hv1, hv2, hv3⟩ := ((h.ev z).c1 hs).cells hs
  have hlen : vs.length = ts.length := by rw [hv2.1, hv, List.length_map]
  have htl : ts.length = y.size := by rw [← hn, hv, List.length_map]
  have hvr : ∀ (k : Nat) (x : T) (u : Value), ts[k]? = some x → vs[k]? = some u → Rd P w (fun _ => False) x u := fun k x u hx hu => by
    have := hv2.2 k (.t x) u (by rw [hv, List.getElem?_map, hx]; rfl) hu
    exact Rd.flat this (hf x (List.mem_of_getElem? hx))
  -- the row's block
  have key : ∀ us, OwnsR w e (P.cellsOf e) (pl i) els.length us → ∃ cap cur fz, pl i = .slice (some ⟨g, bb, none⟩) els.length cap ∧ w.heap[g]? = some (.cells cur e fz) ∧ (fz = (0, 0) ∨ cur.size ≤ fz.1) ∧ els.length ≤ cap ∧ cap ≤ maxLen ∧ bb + cap * P.cellsOf e ≤ cur.size ∧ (cur.toList.drop bb).take (els.length * P.cellsOf e) = us := fun us ho => by
    rcases ho.2 with ⟨_, h0⟩ | ⟨g', off', cap, cur, fz, e1, rest⟩
    · omega
    · rw [e1] at hg
      simp only [blk, Option.some.injEq, Prod.mk.injEq] at hg
      obtain ⟨rfl, rfl⟩ := hg
      exact ⟨cap, cur, fz, e1, rest⟩
  obtain ⟨cap, cur, fz, k1, k3, k4, k5, k6, k7, k8⟩ := key us0 hp.own
  have hcap : bb + els.length * P.cellsOf e ≤ cur.size := Nat.le_trans (Nat.add_le_add_left (Nat.mul_le_mul_right _ k5) _) k7
  have hrun := run_storeCells_g P g (bb + (n * P.cellsOf e + off)) e fz vs 0 cur w k3 k4 (by omega) hv3
  have hcur : (cur.toList.take (bb + (n * P.cellsOf e + off) + 0) ++ vs ++ cur.toList.drop (bb + (n * P.cellsOf e + off) + 0 + vs.length)) = setRange cur.toList (bb + (n * P.cellsOf e + off)) vs := rfl
  rw [hcur] at hrun
  have htop : (pl i).ownBlock = some g := by rw [k1]; rfl
  have hFg : F i g := hp.top g htop
  have k2 : W.o g := (h.range i _ g hl hFg).1
  have hown : ∀ us, OwnsR w e (P.cellsOf e) (pl i) els.length us → OwnsR (w.setRow g (setRange cur.toList (bb + (n * P.cellsOf e + off)) vs).toArray) e (P.cellsOf e) (pl i) (els.set n (setRange (els.getD n []) off ts)).length (setRange us (n * P.cellsOf e + off) vs) := fun us ho => by
    rw [List.length_set]
    have hus : us = us0 := ho.uniq hp.own
    subst hus
    refine ⟨by rw [setRange_len _ _ _ (by rw [ho.1]; omega)]; exact ho.1, .inr ⟨g, bb, cap, _, fz, k1, setRow_heap w g cur _ e fz k3, ?_, k5, k6, ?_, ?_⟩⟩
    · rcases k4 with k4 | k4
      · exact .inl k4
      · exact .inr (by rw [List.size_toArray, setRange_len _ _ _ (by simp; omega)]; simpa using k4)
    · rw [List.size_toArray, setRange_len _ _ _ (by simp; omega)]; simpa using k7
    · rw [List.toList_toArray, setRange_drop _ _ _ _ (by simp; omega), setRange_take _ _ _ _ (by omega) (by simp; omega), k8]
  have huni' : ∀ x ∈ els.set n (setRange (els.getD n []) off ts), x.length = P.cellsOf e := fun x hx => by
    rcases List.mem_or_eq_of_mem_set hx with hx | rfl
    · exact huni x hx
    · have h0 := huni _ (getD_mem hlt)
      rw [setRange_len _ _ _ (by omega)]; exact h0
  have hfl' := flatten_set huni hlt hle
  have hL : els.flatten.length = els.length * P.cellsOf e := flatten_len huni
  have hflt : fl = true → ∀ x ∈ (els.set n (setRange (els.getD n []) off ts)).flatten, x.flat = true := fun hfl x hx => by
    rw [hfl'] at hx
    unfold setRange at hx
    rcases List.mem_append.1 hx with hx | hx
    · rcases List.mem_append.1 hx with hx | hx
      · exact hp.flt hfl x (List.mem_of_mem_take hx)
      · exact hf x hx
    · exact hp.flt hfl x (List.mem_of_mem_drop hx)
  have hmain : ∃ F' : Nat → Prop, (∀ b, F' b → F i b) ∧ ∀ (lk' : Nat → Option (Nat × Ob)) (pl' : Nat → Value) (Fr' : Nat → Prop), Goes P w (w.setRow g (setRange cur.toList (bb + (n * P.cellsOf e + off)) vs).toArray) (look st.objs) lk' pl pl' (Free B W.o (look st.objs) F w) Fr' →
      ObR P (w.setRow g (setRange cur.toList (bb + (n * P.cellsOf e + off)) vs).toArray) (C0 P (w.setRow g (setRange cur.toList (bb + (n * P.cellsOf e + off)) vs).toArray) lk' pl' Fr') (Rd P (w.setRow g (setRange cur.toList (bb + (n * P.cellsOf e + off)) vs).toArray) Fr') (pl i) F' (.row fl d e (els.set n (setRange (els.getD n []) off ts))) := by
    rcases hob with ⟨hd, hob⟩ | ⟨hd, us, h1, h2, h3, h4, h5, h6⟩
    · cases hob with
      | flat hf => cases hf
      | lst us fs h1 h2 h3 h4 h5 h6 h7 h8 =>
        have hul : us.length = els.length * P.cellsOf e := h1.1
        refine ⟨fun b => (pl i).ownBlock = some b ∨ ∃ k, fs k b ∧ ¬ (n * P.cellsOf e + off ≤ k ∧ k < n * P.cellsOf e + off + vs.length), fun b hb => (h8 b).2 (hb.imp id fun ⟨k, h, _⟩ => ⟨k, h⟩), fun lk' pl' Fr' gg => ?_⟩
        refine .inl ⟨hd, .lst (setRange us (n * P.cellsOf e + off) vs) (fun k b => fs k b ∧ ¬ (n * P.cellsOf e + off ≤ k ∧ k < n * P.cellsOf e + off + vs.length)) (hown us h1) huni' hflt (by rw [hfl', setRange_len _ _ _ (by omega), setRange_len _ _ _ (by omega)]; exact h4) (fun k x u hx hu => ?_) (fun k k' b hne hk hk' => h6 k k' b hne hk.1 hk'.1) (fun k b hk => h7 k b hk.1) fun b => Iff.rfl⟩
        rw [hfl', setRange_get _ _ _ _ (by omega)] at hx
        rw [setRange_get _ _ _ _ (by omega)] at hu
        by_cases hk : n * P.cellsOf e + off ≤ k ∧ k < n * P.cellsOf e + off + vs.length
        · rw [if_pos (by rw [← hlen]; exact hk)] at hx
          rw [if_pos hk] at hu
          exact .flat (hf x (List.mem_of_getElem? hx)) ((hvr _ x u hx hu).flat (hf x (List.mem_of_getElem? hx))) fun b hb => hb.2 hk
        · rw [if_neg (by rw [← hlen]; exact hk)] at hx
          rw [if_neg hk] at hu
          have e1 : (fun b => fs k b ∧ ¬ (n * P.cellsOf e + off ≤ k ∧ k < n * P.cellsOf e + off + vs.length)) = fs k := funext fun b => propext ⟨fun h => h.1, fun h => ⟨h, hk⟩⟩
          show Ow P _ x u (fun b => fs k b ∧ ¬ (n * P.cellsOf e + off ≤ k ∧ k < n * P.cellsOf e + off + vs.length))
          rw [e1]
          refine (h5 k x u hx hu).keep fun b hb => setRow_other w g _ b fun e => ?_
          exact h7 k b hb (e ▸ htop)
    · have hul : us.length = els.length * P.cellsOf e := h1.1
      refine ⟨F i, fun _ h => h, fun lk' pl' Fr' gg => .inr ⟨hd, setRange us (n * P.cellsOf e + off) vs, hown us h1, huni', hflt, by rw [hfl', setRange_len _ _ _ (by omega), setRange_len _ _ _ (by omega)]; exact h4, fun k x u hx hu => ?_, h6⟩⟩
      rw [hfl', setRange_get _ _ _ _ (by omega)] at hx
      rw [setRange_get _ _ _ _ (by omega)] at hu
      by_cases hk : n * P.cellsOf e + off ≤ k ∧ k < n * P.cellsOf e + off + vs.length
      · rw [if_pos (by rw [← hlen]; exact hk)] at hx
        rw [if_pos hk] at hu
        exact (hvr _ x u hx hu).flat (hf x (List.mem_of_getElem? hx))
      · rw [if_neg (by rw [← hlen]; exact hk)] at hx
        rw [if_neg hk] at hu
        exact (h5 k x u hx hu).mono gg.more gg.heap
  obtain ⟨F', hF1, hF2⟩ := hmain
  refine ⟨_, _, pl i, F', undef, exec_store ho hy hu (by rw [hv1]; simp; omega) (by rw [hv1]; exact hrun), .inr ⟨rfl, rfl⟩, below_setRow k2 _, fun b hb hf => setRow_other w g _ b fun e => hf _ hl (e ▸ hFg), fun ep0 ob0 h0 => ?_, fun h0 => (by rw [hl] at h0; cases h0), fun b hb => .inr (.inl ⟨_, hl, hF1 b hb⟩), fun lk' pl' Fr' gg _ _ _ => ⟨hF2 lk' pl' Fr' gg, rfl⟩⟩
  rw [hl] at h0; cases h0; exact .inr ⟨rfl, rfl, rfl, rfl⟩
end
end Go.Proofs.Ytkdcpdbgdijbnaa.Ab
