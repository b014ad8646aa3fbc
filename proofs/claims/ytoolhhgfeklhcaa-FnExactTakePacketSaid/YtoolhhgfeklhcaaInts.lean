/- What is proved: contracts of the functions over lists of ints: copying, comparing, sizing, marking.
   Conditions: none beyond those that each lemma names. -/
import Derived.Test.YtoolhhgfeklhcaaScal
import Derived.Deep.OwnRows
namespace Go.Proofs.Ytoolhhgfeklhcaa
open Go.RowKit

def IntsRd (w : World) (B : Nat) (A : Option Addr) (n c : Nat) (xs : List Int) : Prop := SlRd 1 (TY.Rd (.int .i64) w B) w B A n c xs
def wf64 (x : Int) : Prop := -9223372036854775808 ≤ x ∧ x ≤ 9223372036854775807

theorem rdInts_cells {w : World} {B : Nat} : ∀ {xs : List Int} {cs : List Value}, RdList (TY.Rd (.int .i64) w B) xs cs ↔ (cs = xs.map (Value.int .i64) ∧ ∀ x ∈ xs, (Lit.int .i64 x).wf = true)
  | [], cs => by simp [RdList]
  | x :: xs, cs => by
    constructor
    · rintro ⟨c1, c2, rfl, ⟨rfl, hx⟩, h2⟩
      obtain ⟨rfl, h3⟩ := rdInts_cells.1 h2
      refine ⟨by simp, fun y hy => ?_⟩
      rcases List.mem_cons.1 hy with rfl | hy
      · exact hx
      · exact h3 y hy
    · rintro ⟨rfl, h⟩
      exact ⟨[.int .i64 x], xs.map (Value.int .i64), by simp, ⟨rfl, h x (by simp)⟩, rdInts_cells.2 ⟨rfl, fun y hy => h y (by simp [hy])⟩⟩

section
variable {w w' : World} {B B' : Nat} {A : Option Addr} {n c : Nat} {xs : List Int}
theorem IntsRd.len (h : IntsRd w B A n c xs) : xs.length = n := h.1
theorem IntsRd.le (h : IntsRd w B A n c xs) : n ≤ c ∧ c ≤ 9223372036854775807 := ⟨h.2.1, by have := h.2.2.1; unfold maxLen at this; omega⟩
theorem IntsRd.wf (h : IntsRd w B A n c xs) {k : Nat} (hk : k < xs.length) : -9223372036854775808 ≤ xs[k] ∧ xs[k] ≤ 9223372036854775807 := by
  obtain ⟨_, _, _, cs, _, h5⟩ := h
  exact bounds_i64 ((rdInts_cells.1 h5).2 _ (List.getElem_mem hk))
theorem IntsRd.at_ (h : IntsRd w B A n c xs) {k : Nat} (hk : k < xs.length) : ∃ ad, A = some ad ∧ ad.block < B ∧ w.cell? (ad.add k) = some (.int .i64 xs[k]) := by
  obtain ⟨h1, _, _, cs, ⟨h4, h6⟩, h5⟩ := h
  obtain ⟨rfl, h7⟩ := rdInts_cells.1 h5
  obtain ⟨ad, hA, hb, hc⟩ := h6 (by simp; omega)
  exact ⟨ad, hA, hb, hc k _ (by simp [hk])⟩
theorem IntsRd.keep (hk : ∀ p : Addr, p.block < B → w'.cell? p = w.cell? p) (h : IntsRd w B A n c xs) : IntsRd w' B A n c xs := by
  obtain ⟨h1, h2, h3, cs, h4, h5⟩ := h
  exact ⟨h1, h2, h3, cs, h4.keep hk, h5⟩
theorem IntsRd.below (h : IntsRd w B A n c xs) (hb : Below B' w w') (hB : B ≤ B') : IntsRd w' B A n c xs := h.keep fun p hp => hb.cell (p := p) (by omega)
theorem IntsRd.drewN (h : IntsRd w B A n c xs) (k : Nat) : IntsRd (w.drewN k) B A n c xs := h
theorem IntsRd.alloc (h : IntsRd w B A n c xs) (hB : B ≤ w.heap.size) (o : Obj) : IntsRd (w.alloc o) B A n c xs := h.keep fun p hp => World.cell?_alloc_lt w o p (by omega)
end

/-! ### A list of ints in a block of its own -/
def IntsOwn (e : TypeId) (w : World) (g off n c : Nat) (xs : List Int) : Prop :=
  xs.length = n ∧ n ≤ c ∧ c ≤ maxLen ∧ ∃ cur : Array Value, w.heap[g]? = some (.cells cur e (0, 0)) ∧ cur.size = off + c ∧ ∀ k x, xs[k]? = some x → cur[off + k]? = some (.int .i64 x) ∧ wf64 x

section
variable {w w' : World} {B e g off n c : Nat} {xs : List Int}
theorem IntsOwn.len (h : IntsOwn e w g off n c xs) : xs.length = n := h.1
theorem IntsOwn.lt (h : IntsOwn e w g off n c xs) : g < w.heap.size := by
  obtain ⟨_, _, _, cur, hg, _⟩ := h
  exact (Array.getElem?_eq_some_iff.1 hg).1
theorem IntsOwn.keep (hk : w'.heap[g]? = w.heap[g]?) (h : IntsOwn e w g off n c xs) : IntsOwn e w' g off n c xs := by
  obtain ⟨h1, h2, h3, cur, h4, h5⟩ := h
  exact ⟨h1, h2, h3, cur, hk.trans h4, h5⟩
theorem IntsOwn.below (h : IntsOwn e w g off n c xs) (hb : Below B w w') (hB : w.heap.size ≤ B) : IntsOwn e w' g off n c xs := h.keep (hb.block g (Nat.lt_of_lt_of_le h.lt hB))
theorem IntsOwn.alloc (h : IntsOwn e w g off n c xs) (o : Obj) : IntsOwn e (w.alloc o) g off n c xs := h.keep (Below.heap_alloc w o g h.lt)
theorem IntsOwn.drewN (h : IntsOwn e w g off n c xs) (k : Nat) : IntsOwn e (w.drewN k) g off n c xs := h
theorem IntsOwn.drew (h : IntsOwn e w g off n c xs) : IntsOwn e w.drew g off n c xs := h
theorem IntsOwn.setCell (h : IntsOwn e w g off n c xs) {p : Addr} (hp : g ≠ p.block) (u : Value) : IntsOwn e (w.setCell p u) g off n c xs := h.keep (Below.heap_setCell _ _ _ _ hp)
theorem IntsOwn.cell (h : IntsOwn e w g off n c xs) {k o : Nat} (hk : k < xs.length) (ho : o = off + k) : w.cell? ⟨g, o, none⟩ = some (.int .i64 xs[k]) := by
  subst ho
  obtain ⟨h1, h2, h3, cur, h4, h5, h6⟩ := h
  rw [cell_of_row w g (off + k) cur e (0, 0) h4]
  exact (h6 k _ (List.getElem?_eq_getElem hk)).1
theorem IntsOwn.frozen (h : IntsOwn e w g off n c xs) (k : Nat) : w.frozen? ⟨g, k, none⟩ = false := by
  obtain ⟨h1, h2, h3, cur, h4, h5, h6⟩ := h
  simp [World.frozen?, h4]
theorem IntsOwn.wf (h : IntsOwn e w g off n c xs) {k : Nat} (hk : k < xs.length) : -9223372036854775808 ≤ xs[k] ∧ xs[k] ≤ 9223372036854775807 := by
  obtain ⟨h1, h2, h3, cur, h4, h5, h6⟩ := h
  exact (h6 k _ (List.getElem?_eq_getElem hk)).2
theorem IntsOwn.rd (h : IntsOwn e w g off n c xs) (hB : g < B) : IntsRd w B (some ⟨g, off, none⟩) n c xs := by
  obtain ⟨h1, h2, h3, cur, h4, h5, h6⟩ := h
  refine ⟨h1, h2, h3, xs.map (Value.int .i64), ⟨by simp [h1], fun _ => ⟨_, rfl, hB, fun j u hu => ?_⟩⟩, rdInts_cells.2 ⟨rfl, fun x hx => ?_⟩⟩
  · have ha : (⟨g, off, none⟩ : Addr).add j = ⟨g, off + j, none⟩ := by unfold Addr.add; split <;> simp_all
    rw [ha, cell_of_row w g (off + j) cur e (0, 0) h4]
    rw [List.getElem?_map, Option.map_eq_some_iff] at hu
    obtain ⟨x, hx, rfl⟩ := hu
    exact (h6 j x hx).1
  · obtain ⟨i, hi, rfl⟩ := List.getElem_of_mem hx
    exact WalkArith.wf_i64 (h6 i _ (List.getElem?_eq_getElem hi)).2
theorem IntsOwn.set (h : IntsOwn e w g off n c xs) {k o : Nat} (hk : k < n) (ho : o = off + k) {x : Int} (hx : wf64 x) : IntsOwn e (w.setCell ⟨g, o, none⟩ (.int .i64 x)) g off n c (xs.set k x) := by
  subst ho
  obtain ⟨h1, h2, h3, cur, h4, h5, h6⟩ := h
  refine ⟨by simp [h1], h2, h3, cur.setIfInBounds (off + k) (.int .i64 x), ?_, by simpa using h5, fun j y hy => ?_⟩
  · simp [World.setCell, Array.getElem?_modify, h4]
  · rw [Array.getElem?_setIfInBounds]
    rw [List.getElem?_set] at hy
    by_cases e1 : k = j
    · subst e1
      rw [if_pos rfl, if_pos (by omega)] at hy
      cases hy
      rw [if_pos rfl, if_pos (by omega)]
      exact ⟨rfl, hx⟩
    · rw [if_neg e1] at hy
      rw [if_neg (by omega)]
      exact h6 j y hy
theorem IntsOwn.made (w : World) (e n : Nat) (h : n ≤ maxLen) : IntsOwn e (w.alloc (.cells (madeCells #[.int .i64 0] n) e)) w.heap.size 0 n n (List.replicate n 0) := by
  refine ⟨by simp, Nat.le_refl _, h, madeCells #[.int .i64 0] n, heap_alloc_new w _, by rw [size_madeCells]; simp, fun k x hx => ?_⟩
  rw [List.getElem?_replicate] at hx
  split at hx
  · rename_i hk
    cases hx
    refine ⟨by simp [madeCells, hk, Nat.mod_one], ?_⟩
    unfold wf64
    omega
  · cases hx
end

theorem copied_step (xs : List Int) (k : Nat) (h : k < xs.length) : (xs.take k ++ List.replicate (xs.length - k) 0).set k xs[k] = xs.take (k + 1) ++ List.replicate (xs.length - (k + 1)) 0 := by
  rw [List.set_append, if_neg (by simp; omega)]
  obtain ⟨m, hm⟩ : ∃ m, xs.length - k = m + 1 := ⟨xs.length - k - 1, by omega⟩
  rw [hm, List.replicate_succ, show xs.length - (k + 1) = m from by omega, List.take_succ_eq_append_getElem h, List.append_assoc]
  simp [Nat.min_eq_left (Nat.le_of_lt h)]

theorem int_info : (Try.prog.info? 3).map (fun i => (i.zero, i.size, i.bytes)) = some (some (.int .i64 0), 1, 8) := by kernel_rfl

theorem take_snoc' {α : Type} (xs : List α) (k : Nat) (h : k < xs.length) : xs.take (k + 1) = xs.take k ++ [xs[k]] := List.take_succ_eq_append_getElem h

set_option maxHeartbeats 400000 in
theorem l_eqIntS {B n c m d : Nat} {A A' : Option Addr} {xs ys : List Int} (w : World) (hx : IntsRd w B A n c xs) (hy : IntsRd w B A' m d ys) :
    Calls Try.prog 45 #[.slice A n c, .slice A' m d] w fun e w' => e = .returned (.bool (decide (xs = ys))) ∧ ∃ k, w' = w.drewN k := by
  have bx := hx.le
  have by_ := hy.le
  obtain ⟨bx1, bx2⟩ := bx
  obtain ⟨by1, by2⟩ := by_
  have lx := Lib.hid hx.len
  have ly := Lib.hid hy.len
  have HX := Lib.hid hx
  have HY := Lib.hid hy
  clear hx hy
  by_cases hnm : n = m
  · subst hnm
    go_enter Try.func45, Try.ntmps45
    go_wp2
    go_loopw [5] (fun i wr => ∃ k q : Nat, k ≤ n ∧ i = .int .i64 k ∧ Hid (xs.take k = ys.take k) ∧ wr = w.drewN q) (fun i _ => n - (intOf i).toNat)
    case atStart => exact ⟨0, 0, Nat.zero_le _, rfl, rfl, rfl⟩
    case round =>
      obtain ⟨k, q, hk, rfl, he, rfl⟩ := hrel
      by_cases hlt : k < n
      · obtain ⟨ad, rfl, _, hc⟩ := HX.out.at_ (k := k) (by rw [lx.out]; exact hlt)
        obtain ⟨ad', rfl, _, hc'⟩ := HY.out.at_ (k := k) (by rw [ly.out]; exact hlt)
        have lxk : k < xs.length := by rw [lx.out]; exact hlt
        have lyk : k < ys.length := by rw [ly.out]; exact hlt
        by_cases hv : xs[k] = ys[k]
        · have hs : Hid (xs.take (k + 1) = ys.take (k + 1)) := by
            have h0 := he.out
            show _ = _
            rw [take_snoc' xs k lxk, take_snoc' ys k lyk, h0, hv]
          have hb : (xs[k] == ys[k]) = true := by simp [hv]
          generalize xs[k] = u at *
          generalize ys[k] = v at *
          subst hv
          clear he lx ly HX HY
          go_wp2
          go_quiet (fail)
          go_wp2
          go_roundw
          case rel => exact ⟨k + 1, _, by omega, by go_num, hs, rfl⟩
          case measure => simp [intOf]; omega
        · have hne : xs ≠ ys := fun e => hv (by subst e; rfl)
          have hd : Hid (decide (xs = ys) = false) := by show _ = _; simp [hne]
          have hb : (xs[k] == ys[k]) = false := by simp [hv]
          generalize xs[k] = u at *
          generalize ys[k] = v at *
          clear he lx ly HX HY hne
          go_wp2
          go_quiet (fail)
          go_wp2
          go_ret
          exact ⟨by rw [hd.out]; rfl, _, World.drewN_drewN _ _ _⟩
      · have hkn : k = n := by omega
        have hd : Hid (decide (xs = ys) = true) := by
          show _ = _
          have h0 := he.out
          have h1 := lx.out
          have h2 := ly.out
          rw [hkn, List.take_of_length_le (by omega), List.take_of_length_le (by omega)] at h0
          simp [h0]
        clear hkn
        go_wp2
        go_ret
        exact ⟨by rw [hd.out]; rfl, _, rfl⟩
  · have hne : xs ≠ ys := fun e => hnm (by have h1 := lx.out; have h2 := ly.out; subst e; omega)
    have hd : Hid (decide (xs = ys) = false) := by show _ = _; simp [hne]
    clear hne
    go_enter Try.func45, Try.ntmps45
    go_wp2
    go_ret
    exact ⟨by rw [hd.out]; rfl, 0, rfl⟩
theorem below_of_drewN {w w' : World} {q : Nat} (h : w' = w.drewN q) : Below w.heap.size w w' := by subst h; exact below_drewN (Below.refl _ _) _
theorem l_eqIntS_same {B n c m d : Nat} {A A' : Option Addr} {xs : List Int} (w : World) (hx : IntsRd w B A n c xs) (hy : IntsRd w B A' m d xs) :
    Calls Try.prog 45 #[.slice A n c, .slice A' m d] w fun e w' => e = .returned (.bool true) ∧ Below w.heap.size w w' :=
  (l_eqIntS w hx hy).mono fun _ _ ⟨he, _, hq⟩ => ⟨by rw [he]; simp, below_of_drewN hq⟩
set_option maxHeartbeats 400000 in
theorem l_toIntS {B n c : Nat} {A : Option Addr} {xs : List Int} (w : World) (hB : B ≤ w.heap.size) (hx : IntsRd w B A n c xs) (hn : n ≤ 1048576) :
    Calls Try.prog 42 #[.slice A n c] w fun e w' => e = .returned (.slice (some ⟨w.heap.size, 0, none⟩) n n) ∧ IntsOwn 3 w' w.heap.size 0 n n xs ∧ Below w.heap.size w w' ∧ w'.heap.size = w.heap.size + 1 := by
  have lx := Lib.hid hx.len
  have HX := Lib.hid hx
  clear hx
  have hmk := run_make_row' (P := Try.prog) 28 3 (.int .i64 0) 8 Try.underlying28 int_info rfl .i64 .i64 n (by omega) (by omega)
  go_enter Try.func42, Try.ntmps42
  go_wp2
  clear hmk
  go_loopw [4] (fun i wr => ∃ k : Nat, k ≤ n ∧ i = .int .i64 k ∧ IntsOwn 3 wr w.heap.size 0 n n (xs.take k ++ List.replicate (xs.length - k) 0) ∧ Below w.heap.size w wr ∧ Hid (wr.heap.size = w.heap.size + 1)) (fun i _ => n - (intOf i).toNat)
  case atStart => exact ⟨0, Nat.zero_le _, rfl, by have := lx.out; subst this; simpa using IntsOwn.made w 3 xs.length (by simp only [maxLen]; omega), below1 _ _, by show _ = _; simp⟩
  case round =>
    obtain ⟨k, hk, rfl, hown, hb, hs⟩ := hrel
    by_cases hlt : k < n
    · have lxk : k < xs.length := by rw [lx.out]; exact hlt
      obtain ⟨ad, rfl, hab, hc⟩ := HX.out.at_ (k := k) lxk
      have hc' : wr.cell? (ad.add k) = some (.int .i64 xs[k]) := (hb.cell (p := ad.add k) (by rw [block_of_add]; omega)).trans hc
      have hwf := HX.out.wf lxk
      have hf := hown.frozen k
      obtain ⟨v, hcl⟩ : ∃ v, wr.cell? ⟨w.heap.size, k, none⟩ = some v := ⟨_, hown.cell (k := k) (by simp; omega) (Nat.zero_add k).symm⟩
      have HS := hown.set hlt (Nat.zero_add k).symm hwf
      rw [copied_step xs k lxk] at HS
      have hb2 := hb.setCell (p := ⟨w.heap.size, k, none⟩) (Nat.le_refl _) (.int .i64 xs[k])
      clear hown hb hc hwf HX
      go_wp2
      go_roundw
      case rel => exact ⟨k + 1, by omega, by go_num, HS, hb2, by have := hs.out; show _ = _; simpa [World.setCell] using this⟩
      case measure => simp [intOf]; omega
    · have hkn : k = xs.length := by rw [lx.out]; omega
      have hown' : IntsOwn 3 wr w.heap.size 0 n n xs := by
        rw [hkn] at hown
        simpa using hown
      clear hkn hown
      go_wp2
      go_ret
      exact ⟨rfl, hown', hb, hs.out⟩
end Go.Proofs.Ytoolhhgfeklhcaa
