/- What is proved: bodies and worlds in plain terms: when they are valid, how they move, what a tick does.
   Conditions: none beyond those that each lemma names. -/
import Derived.Test.YtmkpgcahmbancaaRand
namespace Go.Proofs.Ytmkpgcahmbancaa
set_option linter.unusedSimpArgs false
set_option linter.unusedVariables false
abbrev Lv := List (List UInt8)
def widthL (l : Lv) : Nat := (l.getD 0 []).length
/-- A tile. -/
def tileN (l : Lv) (r c : Nat) : Nat := ((l.getD r []).getD c 0).toNat
def Edge (n w r c : Nat) : Prop := r = 0 ∨ r + 1 = n ∨ c = 0 ∨ c + 1 = w
def OkT (t : Nat) : Prop := t = 35 ∨ t = 111 ∨ t = 46 ∨ (49 ≤ t ∧ t ≤ 52)
structure LevelP (l : Lv) : Prop where
  n3 : 3 ≤ l.length
  n12 : l.length ≤ 12
  w4 : 4 ≤ widthL l
  w20 : widthL l ≤ 20
  rows : ∀ r, r < l.length → (l.getD r []).length = widthL l
  tiles : ∀ r c, r < l.length → c < widthL l → OkT (tileN l r c)
  edge : ∀ r c, r < l.length → c < widthL l → Edge l.length (widthL l) r c → tileN l r c = 35
  once : ∀ r c r' c', r < l.length → c < widthL l → r' < l.length → c' < widthL l → tileN l r c = tileN l r' c' → 49 ≤ tileN l r c → tileN l r c ≤ 52 → r = r' ∧ c = c'
  open_ : ∃ r c, r < l.length ∧ c < widthL l ∧ tileN l r c ≠ 35
open Classical in
noncomputable def levelOk (l : Lv) : Bool := decide (LevelP l)
theorem levelOk_iff {l : Lv} : levelOk l = true ↔ LevelP l := by classical exact decide_eq_true_iff
theorem levelOk_no {l : Lv} (h : ¬ LevelP l) : levelOk l = false := by classical exact decide_eq_false h
/-- The tiles ahead of a place. -/
def Dn (w r c p q : Nat) : Prop := (p < r ∨ (p = r ∧ q < c)) ∧ q < w
/-- What is known when the tiles ahead of a place have been looked at. -/
structure Scan (l : Lv) (r c : Nat) (s1 s2 s3 s4 : Bool) (op : Bool) : Prop where
  rows : ∀ p, p < r → (l.getD p []).length = widthL l
  tiles : ∀ p q, Dn (widthL l) r c p q → OkT (tileN l p q)
  edge : ∀ p q, Dn (widthL l) r c p q → Edge l.length (widthL l) p q → tileN l p q = 35
  seen1 : s1 = true ↔ ∃ p q, Dn (widthL l) r c p q ∧ tileN l p q = 49
  seen2 : s2 = true ↔ ∃ p q, Dn (widthL l) r c p q ∧ tileN l p q = 50
  seen3 : s3 = true ↔ ∃ p q, Dn (widthL l) r c p q ∧ tileN l p q = 51
  seen4 : s4 = true ↔ ∃ p q, Dn (widthL l) r c p q ∧ tileN l p q = 52
  once : ∀ p q p' q', Dn (widthL l) r c p q → Dn (widthL l) r c p' q' → tileN l p q = tileN l p' q' → 49 ≤ tileN l p q → tileN l p q ≤ 52 → p = p' ∧ q = q'
  open_ : op = true ↔ ∃ p q, Dn (widthL l) r c p q ∧ tileN l p q ≠ 35
theorem dn_zero {w p q : Nat} : ¬ Dn w 0 0 p q := by unfold Dn; omega
theorem dn_succ {w r c p q : Nat} (hc : c < w) : Dn w r (c + 1) p q ↔ (Dn w r c p q ∨ (p = r ∧ q = c)) := by unfold Dn; omega
theorem dn_row {w r p q : Nat} : Dn w (r + 1) 0 p q ↔ Dn w r w p q := by unfold Dn; omega
theorem dn_ne {w r c p q : Nat} (h : Dn w r c p q) : ¬ (p = r ∧ q = c) := by unfold Dn at h; omega
theorem Scan.start (l : Lv) : Scan l 0 0 false false false false false := by
  refine ⟨fun p hp => absurd hp (Nat.not_lt_zero _), fun p q h => absurd h dn_zero, fun p q h => absurd h dn_zero, ?_, ?_, ?_, ?_, fun p q p' q' h => absurd h dn_zero, ?_⟩
  all_goals exact ⟨fun h => (by cases h), fun ⟨p, q, h, _⟩ => absurd h dn_zero⟩
theorem Scan.row {l : Lv} {r : Nat} {s1 s2 s3 s4 op : Bool} (h : Scan l r (widthL l) s1 s2 s3 s4 op) (hl : (l.getD r []).length = widthL l) : Scan l (r + 1) 0 s1 s2 s3 s4 op := by
  refine ⟨fun p hp => ?_, ?_, ?_, ?_, ?_, ?_, ?_, ?_, ?_⟩
  · by_cases e : p = r
    · rw [e]; exact hl
    · exact h.rows p (by omega)
  all_goals simp only [dn_row]
  · exact h.tiles
  · exact h.edge
  · exact h.seen1
  · exact h.seen2
  · exact h.seen3
  · exact h.seen4
  · exact h.once
  · exact h.open_
theorem ex_dn {w r c : Nat} (hc : c < w) {Q : Nat → Nat → Prop} : (∃ p q, Dn w r (c + 1) p q ∧ Q p q) ↔ ((∃ p q, Dn w r c p q ∧ Q p q) ∨ Q r c) := by
  constructor
  · rintro ⟨p, q, h, hq⟩
    rcases (dn_succ hc).1 h with h | ⟨rfl, rfl⟩
    · exact .inl ⟨p, q, h, hq⟩
    · exact .inr hq
  · rintro (⟨p, q, h, hq⟩ | h)
    · exact ⟨p, q, (dn_succ hc).2 (.inl h), hq⟩
    · exact ⟨r, c, (dn_succ hc).2 (.inr ⟨rfl, rfl⟩), h⟩
/-- One more tile. -/
theorem Scan.next {l : Lv} {r c : Nat} {s1 s2 s3 s4 op : Bool} (h : Scan l r c s1 s2 s3 s4 op) (hc : c < widthL l) (hok : OkT (tileN l r c)) (he : Edge l.length (widthL l) r c → tileN l r c = 35)
    (h1 : tileN l r c = 49 → s1 = false) (h2 : tileN l r c = 50 → s2 = false) (h3 : tileN l r c = 51 → s3 = false) (h4 : tileN l r c = 52 → s4 = false) :
    Scan l r (c + 1) (s1 || decide (tileN l r c = 49)) (s2 || decide (tileN l r c = 50)) (s3 || decide (tileN l r c = 51)) (s4 || decide (tileN l r c = 52)) (op || decide (tileN l r c ≠ 35)) := by
  refine ⟨h.rows, fun p q hd => ?_, fun p q hd => ?_, ?_, ?_, ?_, ?_, fun p q p' q' hd hd' ht g1 g2 => ?_, ?_⟩
  · rcases (dn_succ hc).1 hd with hd | ⟨rfl, rfl⟩
    · exact h.tiles p q hd
    · exact hok
  · rcases (dn_succ hc).1 hd with hd | ⟨rfl, rfl⟩
    · exact h.edge p q hd
    · exact he
  · rw [ex_dn hc, ← h.seen1, Bool.or_eq_true, decide_eq_true_iff]
  · rw [ex_dn hc, ← h.seen2, Bool.or_eq_true, decide_eq_true_iff]
  · rw [ex_dn hc, ← h.seen3, Bool.or_eq_true, decide_eq_true_iff]
  · rw [ex_dn hc, ← h.seen4, Bool.or_eq_true, decide_eq_true_iff]
  · have key : ∀ p q, Dn (widthL l) r c p q → tileN l p q = tileN l r c → 49 ≤ tileN l r c → tileN l r c ≤ 52 → False := fun p q hd ht g1 g2 => by
      have : tileN l r c = 49 ∨ tileN l r c = 50 ∨ tileN l r c = 51 ∨ tileN l r c = 52 := by omega
      rcases this with e | e | e | e
      · have := h.seen1.2 ⟨p, q, hd, ht.trans e⟩
        rw [h1 e] at this; cases this
      · have := h.seen2.2 ⟨p, q, hd, ht.trans e⟩
        rw [h2 e] at this; cases this
      · have := h.seen3.2 ⟨p, q, hd, ht.trans e⟩
        rw [h3 e] at this; cases this
      · have := h.seen4.2 ⟨p, q, hd, ht.trans e⟩
        rw [h4 e] at this; cases this
    rcases (dn_succ hc).1 hd with hd | ⟨rfl, rfl⟩
    · rcases (dn_succ hc).1 hd' with hd' | ⟨rfl, rfl⟩
      · exact h.once p q p' q' hd hd' ht g1 g2
      · exact (key p q hd ht (by omega) (by omega)).elim
    · rcases (dn_succ hc).1 hd' with hd' | ⟨rfl, rfl⟩
      · exact (key p' q' hd' ht.symm g1 g2).elim
      · exact ⟨rfl, rfl⟩
  · rw [ex_dn hc, ← h.open_, Bool.or_eq_true, decide_eq_true_iff]
/-- The end of the search: all tiles have been looked at. -/
theorem Scan.done {l : Lv} {s1 s2 s3 s4 op : Bool} (h : Scan l l.length 0 s1 s2 s3 s4 op) (n3 : 3 ≤ l.length) (n12 : l.length ≤ 12) (w4 : 4 ≤ widthL l) (w20 : widthL l ≤ 20) : levelOk l = op := by
  have hd : ∀ r c, r < l.length → c < widthL l → Dn (widthL l) l.length 0 r c := fun r c h1 h2 => ⟨.inl h1, h2⟩
  have hi : ∀ r c, Dn (widthL l) l.length 0 r c → r < l.length ∧ c < widthL l := fun r c h => by unfold Dn at h; omega
  rw [Bool.eq_iff_iff, levelOk_iff, h.open_]
  constructor
  · intro hl
    obtain ⟨r, c, h1, h2, h3⟩ := hl.open_
    exact ⟨r, c, hd r c h1 h2, h3⟩
  · rintro ⟨r, c, h1, h2⟩
    exact ⟨n3, n12, w4, w20, h.rows, fun r c h1 h2 => h.tiles r c (hd r c h1 h2), fun r c h1 h2 => h.edge r c (hd r c h1 h2), fun r c r' c' h1 h2 h1' h2' => h.once r c r' c' (hd r c h1 h2) (hd r' c' h1' h2'), r, c, (hi r c h1).1, (hi r c h1).2, h2⟩
/-- A tile that makes the level bad. -/
theorem Scan.dup {l : Lv} {r c : Nat} {s1 s2 s3 s4 op : Bool} (h : Scan l r c s1 s2 s3 s4 op) (hr : r < l.length) (hc : c < widthL l)
    (hs : (tileN l r c = 49 ∧ s1 = true) ∨ (tileN l r c = 50 ∧ s2 = true) ∨ (tileN l r c = 51 ∧ s3 = true) ∨ (tileN l r c = 52 ∧ s4 = true)) : levelOk l = false := by
  refine levelOk_no fun hl => ?_
  have key : ∀ p q, Dn (widthL l) r c p q → tileN l p q = tileN l r c → 49 ≤ tileN l r c → tileN l r c ≤ 52 → False := fun p q hd ht g1 g2 => by
    have hpq : p < l.length ∧ q < widthL l := by unfold Dn at hd; omega
    exact dn_ne hd (hl.once p q r c hpq.1 hpq.2 hr hc ht (by omega) (by omega))
  rcases hs with ⟨e, hs⟩ | ⟨e, hs⟩ | ⟨e, hs⟩ | ⟨e, hs⟩
  · obtain ⟨p, q, hd, ht⟩ := h.seen1.1 hs
    exact key p q hd (by omega) (by omega) (by omega)
  · obtain ⟨p, q, hd, ht⟩ := h.seen2.1 hs
    exact key p q hd (by omega) (by omega) (by omega)
  · obtain ⟨p, q, hd, ht⟩ := h.seen3.1 hs
    exact key p q hd (by omega) (by omega) (by omega)
  · obtain ⟨p, q, hd, ht⟩ := h.seen4.1 hs
    exact key p q hd (by omega) (by omega) (by omega)
theorem bad_tile {l : Lv} {r c : Nat} (hr : r < l.length) (hc : c < widthL l) (h : ¬ OkT (tileN l r c)) : levelOk l = false := levelOk_no fun hl => h (hl.tiles r c hr hc)
theorem bad_edge {l : Lv} {r c : Nat} (hr : r < l.length) (hc : c < widthL l) (he : Edge l.length (widthL l) r c) (h : tileN l r c ≠ 35) : levelOk l = false := levelOk_no fun hl => h (hl.edge r c hr hc he)
theorem bad_row {l : Lv} {r : Nat} (hr : r < l.length) (h : (l.getD r []).length ≠ widthL l) : levelOk l = false := levelOk_no fun hl => h (hl.rows r hr)
theorem bad_size {l : Lv} (h : l.length < 3 ∨ 12 < l.length ∨ widthL l < 4 ∨ 20 < widthL l) : levelOk l = false := levelOk_no fun hl => by
  have := hl.n3; have := hl.n12; have := hl.w4; have := hl.w20; omega

/-! ### Where a body would lie -/
/-- A tile is a wall, or there is none. -/
def Wall (l : Lv) (r c : Nat) : Prop := ¬ (r < l.length ∧ c < (l.getD r []).length ∧ tileN l r c ≠ 35)
def SolidP (l : Lv) (x y s : Int) : Prop := ¬ (0 ≤ x ∧ x ≤ 1000 ∧ 0 ≤ y ∧ y ≤ 1000) ∨ ∃ r c : Nat, y / 16 ≤ r ∧ (r : Int) ≤ (y + s - 1) / 16 ∧ x / 16 ≤ c ∧ (c : Int) ≤ (x + s - 1) / 16 ∧ Wall l r c
open Classical in
noncomputable def solidV (l : Lv) (x y s : Int) : Bool := decide (SolidP l x y s)
theorem solidV_iff {l : Lv} {x y s : Int} : solidV l x y s = true ↔ SolidP l x y s := by classical exact decide_eq_true_iff
theorem solidV_no {l : Lv} {x y s : Int} : solidV l x y s = false ↔ ¬ SolidP l x y s := by classical exact decide_eq_false_iff_not
/-- In a valid level a body that would reach beyond the last tiles is in the wall. -/
theorem solid_out {l : Lv} {x y s : Int} (h : LevelP l) (hs : 1 ≤ s) (ho : x < 0 ∨ y < 0 ∨ (widthL l : Int) * 16 - s < x ∨ (l.length : Int) * 16 - s < y) : solidV l x y s = true := by
  rw [solidV_iff]
  by_cases hin : 0 ≤ x ∧ x ≤ 1000 ∧ 0 ≤ y ∧ y ≤ 1000
  · refine .inr ?_
    by_cases hx : (widthL l : Int) * 16 - s < x
    · refine ⟨(y / 16).toNat, ((x + s - 1) / 16).toNat, by omega, by omega, by omega, by omega, fun hw => ?_⟩
      have := h.rows _ hw.1
      omega
    · refine ⟨((y + s - 1) / 16).toNat, (x / 16).toNat, by omega, by omega, by omega, by omega, fun hw => ?_⟩
      omega
  · exact .inl hin
theorem solid_in {l : Lv} {x y s : Int} (h : solidV l x y s = false) : 0 ≤ x ∧ x ≤ 1000 ∧ 0 ≤ y ∧ y ≤ 1000 := by
  rw [solidV_no] at h
  exact Classical.byContradiction fun hn => h (.inl hn)
/-- A smaller body inside. -/
theorem solid_sub {l : Lv} {x y s x' y' s' : Int} (h : solidV l x y s = false) (hx : x ≤ x') (hx2 : x' + s' ≤ x + s) (hy : y ≤ y') (hy2 : y' + s' ≤ y + s) (hs : 1 ≤ s') (hb : x' ≤ 1000 ∧ y' ≤ 1000) : solidV l x' y' s' = false := by
  have hi := solid_in h
  rw [solidV_no] at h ⊢
  rintro (hn | ⟨r, c, h1, h2, h3, h4, hw⟩)
  · omega
  · exact h (.inr ⟨r, c, by omega, by omega, by omega, by omega, hw⟩)
/-- Valid: not in the wall means well inside. -/
theorem solid_range {l : Lv} {x y s : Int} (hl : LevelP l) (hs : 1 ≤ s) (h : solidV l x y s = false) : 0 ≤ x ∧ 0 ≤ y ∧ x + s ≤ 320 ∧ y + s ≤ 192 := by
  have := hl.w20; have := hl.n12
  refine ⟨?_, ?_, ?_, ?_⟩
  all_goals
    refine Classical.byContradiction fun hn => ?_
    rw [solid_out hl hs (by omega)] at h
    cases h

/-! ### Where players start -/
def StartP (l : Lv) (p : Int) (xy : Int × Int) : Prop :=
  (∃ r c, r < l.length ∧ c < widthL l ∧ (tileN l r c : Int) = 49 + p ∧ xy = (16 * (c : Int) + 2, 16 * (r : Int) + 2)) ∨
  ((∀ r c, r < l.length → c < widthL l → (tileN l r c : Int) ≠ 49 + p) ∧ ∃ r c, r < l.length ∧ c < widthL l ∧ tileN l r c ≠ 35 ∧ (∀ r' c', Dn (widthL l) r c r' c' → tileN l r' c' = 35) ∧ xy = (16 * (c : Int) + 2, 16 * (r : Int) + 2))
open Classical in
noncomputable def startV (l : Lv) (p : Int) : Int × Int := if h : LevelP l ∧ 0 ≤ p ∧ p ≤ 3 ∧ ∃ xy, StartP l p xy then Classical.choose h.2.2.2 else (-1, -1)
theorem StartP.uniq {l : Lv} {p : Int} {a b : Int × Int} (hl : LevelP l) (h0 : 0 ≤ p) (h3 : p ≤ 3) (ha : StartP l p a) (hb : StartP l p b) : a = b := by
  rcases ha with ⟨r, c, hr, hc, ht, rfl⟩ | ⟨hn, r, c, hr, hc, ht, hd, rfl⟩
  · rcases hb with ⟨r', c', hr', hc', ht', rfl⟩ | ⟨hn', _⟩
    · obtain ⟨e1, e2⟩ := hl.once r c r' c' hr hc hr' hc' (by omega) (by omega) (by omega)
      rw [e1, e2]
    · exact absurd ht (hn' r c hr hc)
  · rcases hb with ⟨r', c', hr', hc', ht', rfl⟩ | ⟨_, r', c', hr', hc', ht', hd', rfl⟩
    · exact absurd ht' (hn r' c' hr' hc')
    · by_cases e : r = r' ∧ c = c'
      · rw [e.1, e.2]
      · by_cases e2 : r < r' ∨ (r = r' ∧ c < c')
        · exact absurd (hd' r c ⟨e2, hc⟩) ht
        · exact absurd (hd r' c' ⟨by omega, hc'⟩) ht'
theorem startV_eq {l : Lv} {p : Int} {xy : Int × Int} (hl : LevelP l) (h0 : 0 ≤ p) (h3 : p ≤ 3) (h : StartP l p xy) : startV l p = xy := by
  have hh : LevelP l ∧ 0 ≤ p ∧ p ≤ 3 ∧ ∃ xy, StartP l p xy := ⟨hl, h0, h3, xy, h⟩
  unfold startV
  rw [dif_pos hh]
  exact StartP.uniq hl h0 h3 (Classical.choose_spec hh.2.2.2) h
theorem startV_no {l : Lv} {p : Int} (h : ¬ (LevelP l ∧ 0 ≤ p ∧ p ≤ 3)) : startV l p = (-1, -1) := by
  unfold startV
  rw [dif_neg fun hh => h ⟨hh.1, hh.2.1, hh.2.2.1⟩]
/-- A body of a player fits at its start. -/
theorem start_free {l : Lv} {p : Int} {xy : Int × Int} (hl : LevelP l) (h0 : 0 ≤ p) (h : StartP l p xy) : solidV l xy.1 xy.2 12 = false := by
  obtain ⟨r, c, hr, hc, ht, rfl⟩ : ∃ r c, r < l.length ∧ c < widthL l ∧ tileN l r c ≠ 35 ∧ xy = (16 * (c : Int) + 2, 16 * (r : Int) + 2) := by
    rcases h with ⟨r, c, hr, hc, ht, rfl⟩ | ⟨hn, r, c, hr, hc, ht, hd, rfl⟩
    · exact ⟨r, c, hr, hc, by omega, rfl⟩
    · exact ⟨r, c, hr, hc, ht, rfl⟩
  have := hl.w20; have := hl.n12
  rw [solidV_no]
  rintro (hn | ⟨r', c', h1, h2, h3, h4, hw⟩)
  · simp only at hn; omega
  · obtain rfl : r' = r := by simp only at h1 h2; omega
    obtain rfl : c' = c := by simp only at h3 h4; omega
    exact hw ⟨hr, by rw [hl.rows _ hr]; exact hc, ht⟩

/-! ### Where items may lie -/
def rowSpots (l : Lv) (r c : Nat) : List (List Int) := (List.range c).filterMap fun q => if tileN l r q = 111 then some [16 * (q : Int) + 4, 16 * (r : Int) + 4] else none
def spotsTo (l : Lv) (r : Nat) : List (List Int) := (List.range r).flatMap fun p => rowSpots l p (widthL l)
def spotsL (l : Lv) : List (List Int) := spotsTo l l.length
theorem rowSpots_zero (l : Lv) (r : Nat) : rowSpots l r 0 = [] := rfl
theorem rowSpots_yes {l : Lv} {r c : Nat} (h : tileN l r c = 111) : rowSpots l r (c + 1) = rowSpots l r c ++ [[16 * (c : Int) + 4, 16 * (r : Int) + 4]] := by
  simp [rowSpots, List.range_succ, List.filterMap_append, h]
theorem rowSpots_no {l : Lv} {r c : Nat} (h : tileN l r c ≠ 111) : rowSpots l r (c + 1) = rowSpots l r c := by
  simp [rowSpots, List.range_succ, List.filterMap_append, h]
theorem spotsTo_succ (l : Lv) (r : Nat) : spotsTo l (r + 1) = spotsTo l r ++ rowSpots l r (widthL l) := by
  simp [spotsTo, List.range_succ]
theorem rowSpots_len (l : Lv) (r c : Nat) : (rowSpots l r c).length ≤ c := by
  unfold rowSpots
  exact Nat.le_trans (List.length_filterMap_le _ _) (by simp)
theorem spotsTo_len (l : Lv) : ∀ r, (spotsTo l r).length ≤ r * widthL l
  | 0 => by simp [spotsTo]
  | r + 1 => by
    rw [spotsTo_succ, List.length_append, Nat.succ_mul]
    exact Nat.add_le_add (spotsTo_len l r) (rowSpots_len _ _ _)
end Go.Proofs.Ytmkpgcahmbancaa
namespace Go.Proofs.Ytmkpgcahmbancaa
set_option linter.unusedSimpArgs false
set_option linter.unusedVariables false
structure Bd where
  kind : Int
  owner : Int
  x : Int
  y : Int
  vx : Int
  vy : Int
  aim : Int
  life : Int
  timer : Int
instance : Inhabited Bd := ⟨⟨0, 0, 0, 0, 0, 0, 0, 0, 0⟩⟩
structure Wd where
  level : Lv
  tick : Int
  seed : Int
  scores : List Int
  bodies : List Bd
def sizeOfV (k : Int) : Int := if k = 0 then 12 else if k = 1 then 4 else if k = 2 then 8 else 0
theorem sizeOf_pos {k : Int} (h : 0 ≤ k ∧ k ≤ 2) : 1 ≤ sizeOfV k ∧ sizeOfV k ≤ 16 := by unfold sizeOfV; split; omega; split; omega; split <;> omega
noncomputable def solidAtV (l : Lv) (x y s : Int) : Bool := !levelOk l || !inR s 1 16 || solidV l x y s
def meetV (a b : Bd) : Bool := decide (sizeOfV a.kind ≠ 0 ∧ sizeOfV b.kind ≠ 0 ∧ (0 ≤ a.x ∧ a.x ≤ 1000) ∧ (0 ≤ a.y ∧ a.y ≤ 1000) ∧ (0 ≤ b.x ∧ b.x ≤ 1000) ∧ (0 ≤ b.y ∧ b.y ≤ 1000) ∧
  a.x < b.x + sizeOfV b.kind ∧ b.x < a.x + sizeOfV a.kind ∧ a.y < b.y + sizeOfV b.kind ∧ b.y < a.y + sizeOfV a.kind)
/-- A body that is valid in a valid level, among some players. -/
structure BodyP (l : Lv) (n : Int) (b : Bd) : Prop where
  kind : 0 ≤ b.kind ∧ b.kind ≤ 2
  owner : 0 ≤ b.owner ∧ b.owner < n
  free : solidV l b.x b.y (sizeOfV b.kind) = false
  vx : -15 ≤ b.vx ∧ b.vx ≤ 15
  vy : -15 ≤ b.vy ∧ b.vy ≤ 15
  aim : (b.kind = 0 ∧ (b.aim = 1 ∨ b.aim = -1)) ∨ (b.kind ≠ 0 ∧ b.aim = 0)
  life : (b.kind = 0 ∧ 0 ≤ b.life ∧ b.life ≤ 3) ∨ (b.kind ≠ 0 ∧ b.life = 0)
  timer : (b.kind = 0 ∧ b.life = 0 ∧ 1 ≤ b.timer ∧ b.timer ≤ 20) ∨ (b.kind = 0 ∧ b.life ≠ 0 ∧ 0 ≤ b.timer ∧ b.timer ≤ 12) ∨ (b.kind = 1 ∧ 1 ≤ b.timer ∧ b.timer ≤ 25) ∨ (b.kind = 2 ∧ b.owner = 0 ∧ b.timer = 0)
open Classical in
noncomputable def bodyV (l : Lv) (n : Int) (b : Bd) : Bool := decide (BodyP l n b)
theorem bodyV_iff {l : Lv} {n : Int} {b : Bd} : bodyV l n b = true ↔ BodyP l n b := by classical exact decide_eq_true_iff
theorem bodyV_no {l : Lv} {n : Int} {b : Bd} (h : ¬ BodyP l n b) : bodyV l n b = false := by classical exact decide_eq_false h
noncomputable def bodyOkV (l : Lv) (n : Int) (b : Bd) : Bool := levelOk l && bodyV l n b
structure WorldP (w : Wd) : Prop where
  level : LevelP w.level
  tick : 0 ≤ w.tick ∧ w.tick ≤ 100000
  seed : 0 ≤ w.seed ∧ w.seed ≤ 65535
  n : 1 ≤ w.scores.length ∧ w.scores.length ≤ 4
  scores : ∀ k, k < w.scores.length → 0 ≤ w.scores.getD k default ∧ w.scores.getD k default ≤ 1000000
  m : w.scores.length ≤ w.bodies.length ∧ w.bodies.length ≤ 24
  bodies : ∀ k, k < w.bodies.length → BodyP w.level w.scores.length (w.bodies.getD k default)
  players : ∀ k, k < w.scores.length → (w.bodies.getD k default).kind = 0 ∧ (w.bodies.getD k default).owner = k
  others : ∀ k, w.scores.length ≤ k → k < w.bodies.length → (w.bodies.getD k default).kind ≠ 0
open Classical in
noncomputable def worldOk (w : Wd) : Bool := decide (WorldP w)
theorem worldOk_iff {w : Wd} : worldOk w = true ↔ WorldP w := by classical exact decide_eq_true_iff
theorem worldOk_no {w : Wd} (h : ¬ WorldP w) : worldOk w = false := by classical exact decide_eq_false h
def rowOkL (row : List Int) (n : Nat) : Bool := decide (row.length = n) && row.all fun x => inR x 0 15

/-! ### Moving -/
noncomputable def moveX (l : Lv) (s step : Int) : Nat → Bd → Bd × Bool
  | 0, b => (b, false)
  | n + 1, b => if solidV l (b.x + step) b.y s = true then ({ b with vx := 0 }, true) else moveX l s step n { b with x := b.x + step }
noncomputable def moveY (l : Lv) (s step : Int) : Nat → Bd → Bd × Bool
  | 0, b => (b, false)
  | n + 1, b => if solidV l b.x (b.y + step) s = true then ({ b with vy := 0 }, true) else moveY l s step n { b with y := b.y + step }
def sgnV (v : Int) : Int := if v < 0 then -1 else 1
noncomputable def moveV (l : Lv) (b : Bd) : Bd × Bool :=
  let p := moveX l (sizeOfV b.kind) (sgnV b.vx) b.vx.natAbs b
  let q := moveY l (sizeOfV b.kind) (sgnV p.1.vy) p.1.vy.natAbs p.1
  (q.1, p.2 || q.2)
noncomputable def moveBodyV (l : Lv) (b : Bd) : Bd × Bool := if solidAtV l b.x b.y (sizeOfV b.kind) = true ∨ ¬ (-15 ≤ b.vx ∧ b.vx ≤ 15) ∨ ¬ (-15 ≤ b.vy ∧ b.vy ≤ 15) then (b, false) else moveV l b
theorem moveX_rest {l : Lv} {s step : Int} : ∀ {n : Nat} {b : Bd}, (moveX l s step n b).1.kind = b.kind ∧ (moveX l s step n b).1.owner = b.owner ∧ (moveX l s step n b).1.y = b.y ∧ (moveX l s step n b).1.vy = b.vy ∧ (moveX l s step n b).1.aim = b.aim ∧ (moveX l s step n b).1.life = b.life ∧ (moveX l s step n b).1.timer = b.timer ∧ ((moveX l s step n b).1.vx = b.vx ∨ (moveX l s step n b).1.vx = 0)
  | 0, b => ⟨rfl, rfl, rfl, rfl, rfl, rfl, rfl, .inl rfl⟩
  | n + 1, b => by
    unfold moveX
    split
    · exact ⟨rfl, rfl, rfl, rfl, rfl, rfl, rfl, .inr rfl⟩
    · exact moveX_rest (n := n) (b := { b with x := b.x + step })
theorem moveY_rest {l : Lv} {s step : Int} : ∀ {n : Nat} {b : Bd}, (moveY l s step n b).1.kind = b.kind ∧ (moveY l s step n b).1.owner = b.owner ∧ (moveY l s step n b).1.x = b.x ∧ (moveY l s step n b).1.vx = b.vx ∧ (moveY l s step n b).1.aim = b.aim ∧ (moveY l s step n b).1.life = b.life ∧ (moveY l s step n b).1.timer = b.timer ∧ ((moveY l s step n b).1.vy = b.vy ∨ (moveY l s step n b).1.vy = 0)
  | 0, b => ⟨rfl, rfl, rfl, rfl, rfl, rfl, rfl, .inl rfl⟩
  | n + 1, b => by
    unfold moveY
    split
    · exact ⟨rfl, rfl, rfl, rfl, rfl, rfl, rfl, .inr rfl⟩
    · exact moveY_rest (n := n) (b := { b with y := b.y + step })
theorem moveX_free {l : Lv} {s step : Int} : ∀ {n : Nat} {b : Bd}, solidV l b.x b.y s = false → solidV l (moveX l s step n b).1.x (moveX l s step n b).1.y s = false
  | 0, b, h => h
  | n + 1, b, h => by
    unfold moveX
    split
    · exact h
    · rename_i hn
      exact moveX_free (n := n) (b := { b with x := b.x + step }) (by simpa using hn)
theorem moveY_free {l : Lv} {s step : Int} : ∀ {n : Nat} {b : Bd}, solidV l b.x b.y s = false → solidV l (moveY l s step n b).1.x (moveY l s step n b).1.y s = false
  | 0, b, h => h
  | n + 1, b, h => by
    unfold moveY
    split
    · exact h
    · rename_i hn
      exact moveY_free (n := n) (b := { b with y := b.y + step }) (by simpa using hn)
theorem moveV_rest (l : Lv) (b : Bd) : (moveV l b).1.kind = b.kind ∧ (moveV l b).1.owner = b.owner ∧ (moveV l b).1.aim = b.aim ∧ (moveV l b).1.life = b.life ∧ (moveV l b).1.timer = b.timer ∧ ((moveV l b).1.vx = b.vx ∨ (moveV l b).1.vx = 0) ∧ ((moveV l b).1.vy = b.vy ∨ (moveV l b).1.vy = 0) := by
  have h1 := moveX_rest (l := l) (s := sizeOfV b.kind) (step := sgnV b.vx) (n := b.vx.natAbs) (b := b)
  have h2 := moveY_rest (l := l) (s := sizeOfV b.kind) (step := sgnV (moveX l (sizeOfV b.kind) (sgnV b.vx) b.vx.natAbs b).1.vy) (n := (moveX l (sizeOfV b.kind) (sgnV b.vx) b.vx.natAbs b).1.vy.natAbs) (b := (moveX l (sizeOfV b.kind) (sgnV b.vx) b.vx.natAbs b).1)
  unfold moveV
  refine ⟨h2.1.trans h1.1, h2.2.1.trans h1.2.1, h2.2.2.2.2.1.trans h1.2.2.2.2.1, h2.2.2.2.2.2.1.trans h1.2.2.2.2.2.1, h2.2.2.2.2.2.2.1.trans h1.2.2.2.2.2.2.1, ?_, ?_⟩
  · show (moveY _ _ _ _ _).1.vx = _ ∨ _
    rw [h2.2.2.2.1]
    exact h1.2.2.2.2.2.2.2
  · rcases h2.2.2.2.2.2.2.2 with e | e
    · exact .inl (e.trans h1.2.2.2.1)
    · exact .inr e
theorem moveV_free {l : Lv} {b : Bd} (h : solidV l b.x b.y (sizeOfV b.kind) = false) : solidV l (moveV l b).1.x (moveV l b).1.y (sizeOfV b.kind) = false := by
  unfold moveV
  exact moveY_free (moveX_free h)
/-! ### Steering -/
/-- A bit of an input. -/
def bitV (n m : Int) : Int := IntKind.i64.wrap (BitVec.ofInt 64 n &&& BitVec.ofInt 64 m).toNat
def steerX (b : Bd) (i : Int) : Int × Int := if bitV i 2 ≠ 0 ∧ bitV i 1 = 0 then (3, 1) else if bitV i 1 ≠ 0 ∧ bitV i 2 = 0 then (-3, -1) else (0, b.aim)
noncomputable def steerY (l : Lv) (b : Bd) (i : Int) : Int := if bitV i 4 ≠ 0 ∧ solidV l b.x (b.y + 1) (sizeOfV b.kind) = true then -9 else if 8 < b.vy + 1 then 8 else b.vy + 1
def coolV (t : Int) : Int := if 0 < t then t - 1 else t
noncomputable def steerV (l : Lv) (b : Bd) (i : Int) : Bd × Bool :=
  if bitV i 8 ≠ 0 ∧ coolV b.timer = 0 then ({ b with vx := (steerX b i).1, aim := (steerX b i).2, vy := steerY l b i, timer := 12 }, true)
  else ({ b with vx := (steerX b i).1, aim := (steerX b i).2, vy := steerY l b i, timer := coolV b.timer }, false)
open Classical in
noncomputable def steerPlayerV (l : Lv) (b : Bd) (i : Int) : Bd × Bool :=
  if levelOk l = true ∧ b.kind = 0 ∧ 1 ≤ b.life ∧ (0 ≤ b.owner ∧ b.owner ≤ 3) ∧ (0 ≤ i ∧ i ≤ 15) ∧ BodyP l (b.owner + 1) b then steerV l b i else (b, false)
def shotV (b : Bd) : Bd := if (0 ≤ b.x ∧ b.x ≤ 1000) ∧ (0 ≤ b.y ∧ b.y ≤ 1000) ∧ (-1 ≤ b.aim ∧ b.aim ≤ 1) then ⟨1, b.owner, b.x + 4, b.y + 4, 6 * b.aim, 0, 0, 0, 25⟩ else default
noncomputable def freshV (l : Lv) (k : Int) : Bd := ⟨0, k, (startV l k).1, (startV l k).2, 0, 0, 1, 3, 0⟩
theorem steerX_in (b : Bd) (i : Int) : -3 ≤ (steerX b i).1 ∧ (steerX b i).1 ≤ 3 := by unfold steerX; split; simp; split <;> simp
theorem steerX_aim {b : Bd} (i : Int) (h : b.aim = 1 ∨ b.aim = -1) : (steerX b i).2 = 1 ∨ (steerX b i).2 = -1 := by unfold steerX; split; simp; split; simp; exact h
theorem steerY_in {l : Lv} {b : Bd} (i : Int) (h : -15 ≤ b.vy) : -15 ≤ steerY l b i ∧ steerY l b i ≤ 8 := by unfold steerY; split; omega; split <;> omega
theorem cool_in {t : Int} (h : 0 ≤ t ∧ t ≤ 12) : 0 ≤ coolV t ∧ coolV t ≤ 12 := by unfold coolV; split <;> omega
/-- A steered player is valid. -/
theorem steer_ok {l : Lv} {n : Int} {b : Bd} {i : Int} (h : BodyP l n b) (hk : b.kind = 0) (hl : 1 ≤ b.life) : BodyP l n (steerV l b i).1 ∧ (steerV l b i).1.kind = 0 ∧ (steerV l b i).1.owner = b.owner ∧ (steerV l b i).1.life = b.life ∧ (steerV l b i).1.x = b.x ∧ (steerV l b i).1.y = b.y ∧ ((steerV l b i).1.aim = 1 ∨ (steerV l b i).1.aim = -1) := by
  have h1 := steerX_in b i
  have h2 : (steerX b i).2 = 1 ∨ (steerX b i).2 = -1 := steerX_aim i (by rcases h.aim with e | e <;> omega)
  have h3 := steerY_in (l := l) i h.vy.1
  have h4 : 0 ≤ b.timer ∧ b.timer ≤ 12 := by rcases h.timer with e | e | e | e <;> omega
  have h5 := cool_in h4
  have h6 : 0 ≤ b.life ∧ b.life ≤ 3 := by rcases h.life with e | e <;> omega
  unfold steerV
  split
  · exact ⟨⟨h.kind, h.owner, h.free, ⟨by show -15 ≤ (steerX b i).1; omega, by show (steerX b i).1 ≤ 15; omega⟩, ⟨h3.1, by show steerY l b i ≤ 15; omega⟩, .inl ⟨hk, h2⟩, .inl ⟨hk, h6⟩, .inr (.inl ⟨hk, by show b.life ≠ 0; omega, by show (0 : Int) ≤ 12; omega, by show (12 : Int) ≤ 12; omega⟩)⟩, hk, rfl, rfl, rfl, rfl, h2⟩
  · exact ⟨⟨h.kind, h.owner, h.free, ⟨by show -15 ≤ (steerX b i).1; omega, by show (steerX b i).1 ≤ 15; omega⟩, ⟨h3.1, by show steerY l b i ≤ 15; omega⟩, .inl ⟨hk, h2⟩, .inl ⟨hk, h6⟩, .inr (.inl ⟨hk, by show b.life ≠ 0; omega, h5.1, h5.2⟩)⟩, hk, rfl, rfl, rfl, rfl, h2⟩
/-- The shot of a valid player is valid. -/
theorem shot_ok {l : Lv} {n : Int} {b : Bd} (hl : LevelP l) (h : BodyP l n b) (hk : b.kind = 0) : BodyP l n (shotV b) ∧ (shotV b).kind = 1 := by
  have h0 := h.free
  have hs : sizeOfV b.kind = 12 := by rw [hk]; rfl
  rw [hs] at h0
  have h1 := solid_in h0
  have h2 := solid_range hl (by omega) h0
  have h3 : b.aim = 1 ∨ b.aim = -1 := by rcases h.aim with e | e <;> omega
  unfold shotV
  rw [if_pos ⟨⟨h1.1, h1.2.1⟩, ⟨h1.2.2.1, h1.2.2.2⟩, by omega⟩]
  refine ⟨⟨by show (0 : Int) ≤ 1 ∧ (1 : Int) ≤ 2; omega, h.owner, ?_, by show -15 ≤ 6 * b.aim ∧ 6 * b.aim ≤ 15; omega, by show -15 ≤ (0 : Int) ∧ (0 : Int) ≤ 15; omega, .inr ⟨by show (1 : Int) ≠ 0; omega, rfl⟩, .inr ⟨by show (1 : Int) ≠ 0; omega, rfl⟩, .inr (.inr (.inl ⟨rfl, by show (1 : Int) ≤ 25; omega, by show (25 : Int) ≤ 25; omega⟩))⟩, rfl⟩
  exact solid_sub (x' := b.x + 4) (y' := b.y + 4) (s' := 4) h0 (by omega) (by omega) (by omega) (by omega) (by omega) (by omega)
theorem start_some {l : Lv} {p : Int} (hl : LevelP l) (h0 : 0 ≤ p) (h3 : p ≤ 3) : ∃ xy, StartP l p xy := by
  classical
  by_cases hd : ∃ r c, r < l.length ∧ c < widthL l ∧ (tileN l r c : Int) = 49 + p
  · obtain ⟨r, c, h1, h2, h4⟩ := hd
    exact ⟨_, .inl ⟨r, c, h1, h2, h4, rfl⟩⟩
  · -- the first tile that is not a wall
    have key : ∀ m : Nat, (∀ r c, r < l.length → c < widthL l → r * widthL l + c < m → tileN l r c = 35) ∨ ∃ r c, r < l.length ∧ c < widthL l ∧ tileN l r c ≠ 35 ∧ ∀ r' c', r' < l.length → c' < widthL l → r' * widthL l + c' < r * widthL l + c → tileN l r' c' = 35 := by
      intro m
      induction m with
      | zero => exact .inl fun r c _ _ h => absurd h (Nat.not_lt_zero _)
      | succ m ih =>
        rcases ih with ih | ih
        · by_cases hx : ∃ r c, r < l.length ∧ c < widthL l ∧ r * widthL l + c = m ∧ tileN l r c ≠ 35
          · obtain ⟨r, c, h1, h2, h4, h5⟩ := hx
            exact .inr ⟨r, c, h1, h2, h5, fun r' c' g1 g2 g3 => ih r' c' g1 g2 (by omega)⟩
          · refine .inl fun r c h1 h2 h4 => ?_
            by_cases e : r * widthL l + c = m
            · exact Classical.byContradiction fun hn => hx ⟨r, c, h1, h2, e, hn⟩
            · exact ih r c h1 h2 (by omega)
        · exact .inr ih
    rcases key (l.length * widthL l) with hk | ⟨r, c, h1, h2, h4, h5⟩
    · obtain ⟨r, c, h1, h2, h4⟩ := hl.open_
      refine absurd (hk r c h1 h2 ?_) h4
      have : (r + 1) * widthL l ≤ l.length * widthL l := Nat.mul_le_mul_right _ h1
      rw [Nat.succ_mul] at this
      omega
    · refine ⟨_, .inr ⟨fun r c g1 g2 g3 => hd ⟨r, c, g1, g2, g3⟩, r, c, h1, h2, h4, fun r' c' hdn => ?_, rfl⟩⟩
      have hr' : r' < l.length := by unfold Dn at hdn; omega
      refine h5 r' c' hr' hdn.2 ?_
      rcases hdn.1 with g | ⟨g1, g2⟩
      · have : (r' + 1) * widthL l ≤ r * widthL l := Nat.mul_le_mul_right _ g
        rw [Nat.succ_mul] at this
        have := hdn.2
        omega
      · rw [g1]; omega
theorem startV_ok {l : Lv} {p : Int} (hl : LevelP l) (h0 : 0 ≤ p) (h3 : p ≤ 3) : StartP l p (startV l p) := by
  obtain ⟨xy, h⟩ := start_some hl h0 h3
  rw [startV_eq hl h0 h3 h]
  exact h
/-- A player at its start is valid. -/
theorem fresh_ok {l : Lv} {n k : Int} (hl : LevelP l) (h0 : 0 ≤ k) (h3 : k ≤ 3) (hn : k < n) : BodyP l n (freshV l k) :=
  ⟨by show (0 : Int) ≤ 0 ∧ (0 : Int) ≤ 2; omega, ⟨h0, hn⟩, start_free hl h0 (startV_ok hl h0 h3), by show -15 ≤ (0 : Int) ∧ (0 : Int) ≤ 15; omega, by show -15 ≤ (0 : Int) ∧ (0 : Int) ≤ 15; omega, .inl ⟨rfl, .inl rfl⟩, .inl ⟨rfl, by show (0 : Int) ≤ 3; omega, by show (3 : Int) ≤ 3; omega⟩, .inr (.inl ⟨rfl, by show (3 : Int) ≠ 0; omega, by show (0 : Int) ≤ 0; omega, by show (0 : Int) ≤ 12; omega⟩)⟩
end Go.Proofs.Ytmkpgcahmbancaa
