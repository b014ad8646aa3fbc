/- What is proved: numbers, lists, runs of inputs, sealed texts and packets as bytes: how they are written and read, in plain terms.
   Conditions: none. -/
import Derived.WalkArith
namespace Go.Proofs.Ythlpbojljpamlaa
/-! ### Written -/
def encN (n : Nat) : List UInt8 := if n < 128 then [UInt8.ofNat n] else UInt8.ofNat (n % 128 + 128) :: encN (n / 128)
termination_by n
decreasing_by omega
theorem encN_lt {n : Nat} (h : n < 128) : encN n = [UInt8.ofNat n] := by rw [encN, if_pos h]
theorem encN_ge {n : Nat} (h : 128 ≤ n) : encN n = UInt8.ofNat (n % 128 + 128) :: encN (n / 128) := by rw [encN, if_neg (by omega)]
def encodeVarint (n : Int) : List UInt8 := if 0 ≤ n ∧ n ≤ 1099511627775 then encN n.toNat else []
/-- Enough bytes have no room for more. -/
theorem encN_len : ∀ (m n : Nat), n < 128 ^ (m + 1) → (encN n).length ≤ m + 1
  | 0, n, h => by rw [encN_lt (by simpa using h)]; simp
  | m + 1, n, h => by
    by_cases h1 : n < 128
    · rw [encN_lt h1]; simp
    · rw [encN_ge (by omega), List.length_cons]
      have := encN_len m (n / 128) (by rw [Nat.div_lt_iff_lt_mul (by decide)]; rw [Nat.pow_succ] at h; exact h)
      omega
theorem encN_pos (n : Nat) : 0 < (encN n).length := by
  by_cases h : n < 128
  · rw [encN_lt h]; simp
  · rw [encN_ge (by omega)]; simp
/-! ### Read -/
def valB : List UInt8 → Nat
  | [] => 0
  | b :: r => b.toNat % 128 + 128 * valB r
/-- Reading on behind k bytes that came to n. -/
def decI : Nat → Nat → Nat → List UInt8 → Option (Nat × Nat)
  | 0, _, _, _ => none
  | _ + 1, _, _, [] => none
  | f + 1, k, n, c :: r => if 128 ≤ c.toNat then decI f (k + 1) (n + c.toNat % 128 * 128 ^ k) r else
      if (c.toNat = 0 ∧ 0 < k) ∨ 1099511627775 < n + c.toNat % 128 * 128 ^ k then none else some (n + c.toNat % 128 * 128 ^ k, k + 1)
def decodeVarint (s : List UInt8) (at_ : Int) : Int × Int × Bool :=
  if at_ < 0 then (0, 0, false) else match decI 6 0 0 (s.drop at_.toNat) with | some (n, m) => (n, m, true) | none => (0, 0, false)
theorem valB_append (bs : List UInt8) (c : UInt8) : valB (bs ++ [c]) = valB bs + c.toNat % 128 * 128 ^ bs.length := by
  induction bs with
  | nil => simp [valB]
  | cons b r ih =>
    rw [List.cons_append, valB, ih, valB, List.length_cons, Nat.pow_succ, Nat.mul_add]
    have : 128 * (c.toNat % 128 * 128 ^ r.length) = c.toNat % 128 * (128 ^ r.length * 128) := by rw [Nat.mul_comm 128, Nat.mul_assoc]
    rw [this, Nat.add_assoc]
theorem ofNat_toNat (b : UInt8) : UInt8.ofNat b.toNat = b := by simp
/-- Bytes that say that more follow, and one that does not: just they are the number's bytes. -/
theorem encN_valB : ∀ (bs : List UInt8) (c : UInt8), (∀ b ∈ bs, 128 ≤ b.toNat) → c.toNat < 128 → (c.toNat ≠ 0 ∨ bs = []) → encN (valB (bs ++ [c])) = bs ++ [c]
  | [], c, _, hc, _ => by
    have : valB [c] = c.toNat := by simp [valB]; omega
    rw [List.nil_append, this, encN_lt hc, ofNat_toNat]
  | b :: r, c, hb, hc, h0 => by
    have h1 : c.toNat ≠ 0 := h0.resolve_right (by simp)
    have ih := encN_valB r c (fun x hx => hb x (by simp [hx])) hc (.inl h1)
    have hv : 1 ≤ valB (r ++ [c]) := by
      rw [valB_append]
      have : 1 ≤ c.toNat % 128 * 128 ^ r.length := Nat.mul_pos (by omega) (Nat.pow_pos (by decide))
      omega
    have hbl := hb b (by simp)
    have hbu := b.toNat_lt
    rw [List.cons_append, valB, encN_ge (by omega)]
    have e1 : (b.toNat % 128 + 128 * valB (r ++ [c])) / 128 = valB (r ++ [c]) := by omega
    have e2 : (b.toNat % 128 + 128 * valB (r ++ [c])) % 128 + 128 = b.toNat := by omega
    rw [e1, e2, ih, ofNat_toNat]
/-- No number's bytes end in 0, but for 0 itself. -/
theorem encN_last : ∀ (n : Nat) (bs : List UInt8), encN n = bs ++ [0] → bs = []
  | n, bs, h => by
    by_cases h1 : n < 128
    · rw [encN_lt h1] at h
      have := congrArg List.length h
      simp at this
      exact this
    · rw [encN_ge (by omega)] at h
      cases bs with
      | nil => rfl
      | cons b r =>
        rw [List.cons_append, List.cons.injEq] at h
        have h3 := encN_last (n / 128) r h.2
        subst h3
        have h4 := h.2
        by_cases h5 : n / 128 < 128
        · rw [encN_lt h5] at h4
          simp at h4
          have h6 := congrArg UInt8.toNat h4
          simp at h6
          omega
        · rw [encN_ge (by omega)] at h4
          have h6 := congrArg List.length h4
          have := encN_pos (n / 128 / 128)
          simp at h6
          rw [h6] at this
          exact absurd this (by simp)
termination_by n => n
decreasing_by omega
theorem encN_inj_of {bs : List UInt8} {c : UInt8} (hb : ∀ b ∈ bs, 128 ≤ b.toNat) (hc : c.toNat < 128) : encodeVarint (valB (bs ++ [c]) : Nat) = bs ++ [c] ↔ ¬ ((c.toNat = 0 ∧ 0 < bs.length) ∨ 1099511627775 < valB (bs ++ [c])) := by
  constructor
  · intro h hn
    rcases hn with ⟨h1, h2⟩ | h1
    · have hc0 : c = 0 := by apply UInt8.toNat.inj; simpa using h1
      subst hc0
      unfold encodeVarint at h
      split at h
      · rw [Int.toNat_natCast] at h
        rw [encN_last _ _ h] at h2
        cases h2
      · simp at h
    · unfold encodeVarint at h
      rw [if_neg (by omega)] at h
      simp at h
  · intro hn
    have h1 : c.toNat ≠ 0 ∨ bs = [] := by
      by_cases h : c.toNat = 0
      · right
        cases bs with
        | nil => rfl
        | cons b r => exact absurd (.inl ⟨h, by simp⟩) hn
      · exact .inl h
    have h2 : ¬ 1099511627775 < valB (bs ++ [c]) := fun h => hn (.inr h)
    unfold encodeVarint
    rw [if_pos (by omega), Int.toNat_natCast, encN_valB bs c hb hc h1]
/-- What is written is read back. -/
theorem decI_encN : ∀ (f k n m : Nat) (r : List UInt8), m < 128 ^ f → 0 < f → n + m * 128 ^ k ≤ 1099511627775 → (k = 0 ∨ 0 < m) → decI f k n (encN m ++ r) = some (n + m * 128 ^ k, k + (encN m).length)
  | 0, _, _, _, _, _, h, _, _ => absurd h (by decide)
  | f + 1, k, n, m, r, h, _, hx, h0 => by
    by_cases h1 : m < 128
    · rw [encN_lt h1]
      have h2 : (UInt8.ofNat m).toNat = m := by simp; omega
      have h3 : m % 128 = m := Nat.mod_eq_of_lt h1
      simp only [List.singleton_append, decI, h2]
      rw [if_neg (by omega), h3, if_neg (by omega)]
      rfl
    · rw [encN_ge (by omega)]
      have h2 : (UInt8.ofNat (m % 128 + 128)).toNat = m % 128 + 128 := by simp; omega
      have h3 : (m % 128 + 128) % 128 = m % 128 := by omega
      simp only [List.cons_append, decI, h2]
      rw [if_pos (by omega), h3]
      have hd : n + m % 128 * 128 ^ k + m / 128 * 128 ^ (k + 1) = n + m * 128 ^ k := by
        rw [Nat.pow_succ, Nat.add_assoc, Nat.mul_comm (128 ^ k) 128, ← Nat.mul_assoc, ← Nat.add_mul]
        congr 2
        omega
      have hf : 0 < f := by
        cases f with
        | zero => simp at h; omega
        | succ f => omega
      rw [decI_encN f (k + 1) (n + m % 128 * 128 ^ k) (m / 128) r (by rw [Nat.div_lt_iff_lt_mul (by decide), ← Nat.pow_succ]; exact h) hf (by rw [hd]; exact hx) (.inr (by omega)), hd]
      congr 2
      rw [List.length_cons]
      omega
theorem decodeVarint_enc {n : Int} (h : 0 ≤ n ∧ n ≤ 1099511627775) (p r : List UInt8) : decodeVarint (p ++ encodeVarint n ++ r) p.length = (n, ((encodeVarint n).length : Int), true) := by
  unfold decodeVarint encodeVarint
  rw [if_pos h, if_neg (by omega), Int.toNat_natCast, List.append_assoc, List.drop_left, decI_encN 6 0 0 n.toNat r (by have : (128 : Nat) ^ 6 = 4398046511104 := (by decide); omega) (by decide) (by simp; omega) (.inl rfl)]
  simp
  omega
/-! ### One number -/
theorem decI_sound : ∀ (f k n : Nat) (s : List UInt8) (v m : Nat), decI f k n s = some (v, m) →
    ∃ bs c r, s = bs ++ c :: r ∧ (∀ b ∈ bs, 128 ≤ b.toNat) ∧ c.toNat < 128 ∧ v = n + valB (bs ++ [c]) * 128 ^ k ∧ m = k + bs.length + 1 ∧ bs.length < f ∧ ¬ ((c.toNat = 0 ∧ 0 < k + bs.length) ∨ 1099511627775 < v)
  | 0, _, _, _, _, _, h => by cases h
  | _ + 1, _, _, [], _, _, h => by cases h
  | f + 1, k, n, c :: r, v, m, h => by
    unfold decI at h
    split at h
    · rename_i hc
      obtain ⟨bs, d, q, h1, h2, h3, h4, h5, h6, h7⟩ := decI_sound f (k + 1) _ r v m h
      refine ⟨c :: bs, d, q, by rw [h1]; rfl, ?_, h3, ?_, by simp; omega, by simp; omega, by simpa [Nat.add_assoc, Nat.add_comm 1] using h7⟩
      · intro b hb
        rcases List.mem_cons.1 hb with rfl | hb
        · exact hc
        · exact h2 b hb
      · rw [h4, List.cons_append, valB, Nat.add_mul, Nat.pow_succ, Nat.add_assoc]
        congr 2
        rw [Nat.mul_comm (128 ^ k) 128, ← Nat.mul_assoc, Nat.mul_comm (valB (bs ++ [d])) 128]
    · rename_i hc
      split at h
      · cases h
      · rename_i hx
        simp only [Option.some.injEq, Prod.mk.injEq] at h
        obtain ⟨rfl, rfl⟩ := h
        refine ⟨[], c, r, rfl, by simp, by omega, by simp [valB], by simp, by simp, by simpa using hx⟩
theorem decI_bound {f k n v m : Nat} {s : List UInt8} (h : decI f k n s = some (v, m)) : m ≤ k + f ∧ k < m ∧ m ≤ k + s.length ∧ v ≤ 1099511627775 := by
  obtain ⟨bs, c, r, h1, _, _, _, h5, h6, h7⟩ := decI_sound f k n s v m h
  have hl := congrArg List.length h1
  simp only [List.length_append, List.length_cons] at hl
  refine ⟨by omega, by omega, by omega, ?_⟩
  exact Nat.le_of_not_lt fun h => h7 (.inr h)
theorem decodeVarint_yes {s : List UInt8} {p n m : Int} (h : decodeVarint s p = (n, m, true)) :
    0 ≤ p ∧ 0 ≤ n ∧ n ≤ 1099511627775 ∧ 1 ≤ m ∧ m ≤ 6 ∧ p + m ≤ s.length ∧ encodeVarint n = (s.drop p.toNat).take m.toNat := by
  unfold decodeVarint at h
  split at h
  · cases h
  · rename_i hp
    split at h
    · rename_i v q hd
      cases h
      obtain ⟨h1, h2, h3, h4⟩ := decI_bound hd
      obtain ⟨bs, c, r, g1, g2, g3, g4, g5, g6, g7⟩ := decI_sound _ _ _ _ _ _ hd
      rw [List.length_drop] at h3
      refine ⟨by omega, by omega, by omega, by omega, by omega, by omega, ?_⟩
      have hv : v = valB (bs ++ [c]) := by rw [g4]; simp
      subst hv
      rw [(encN_inj_of g2 g3).2 (by simpa using g7), g1]
      have : (q : Int).toNat = bs.length + 1 := by omega
      rw [this, List.take_append]
      simp
      exact (List.take_of_length_le (by omega)).symm
    · cases h
theorem encodeVarint_len (n : Int) : (encodeVarint n).length ≤ 6 := by
  unfold encodeVarint
  split
  · exact encN_len 5 n.toNat (by have : (128 : Nat) ^ 6 = 4398046511104 := (by decide); omega)
  · simp
theorem encodeVarint_pos {n : Int} (h : 0 ≤ n ∧ n ≤ 1099511627775) : 0 < (encodeVarint n).length := by
  unfold encodeVarint
  rw [if_pos h]
  exact encN_pos _
theorem decI_more (f k n : Nat) (c : UInt8) (r : List UInt8) (hc : 128 ≤ c.toNat) : decI (f + 1) k n (c :: r) = decI f (k + 1) (n + c.toNat % 128 * 128 ^ k) r := by
  rw [decI, if_pos hc]
/-! ### Numbers with a sign -/
def signless (n : Int) : Int := if n < -549755813888 ∨ 549755813887 < n then -1 else if 0 ≤ n then 2 * n else -2 * n - 1
def signed (n : Int) : Int := if n < 0 ∨ 1099511627775 < n then 0 else if n % 2 = 0 then n / 2 else -((n + 1) / 2)
theorem signless_in (n : Int) : -1 ≤ signless n ∧ signless n ≤ 1099511627775 := by unfold signless; repeat' split
                                                                                   all_goals omega
theorem signed_less {n : Int} (h : 0 ≤ signless n) : signed (signless n) = n := by
  unfold signless at *
  unfold signed
  repeat' split at *
  all_goals omega
theorem signless_ed {n : Int} (h : 0 ≤ n ∧ n ≤ 1099511627775) : signless (signed n) = n := by
  unfold signed signless
  repeat' split
  all_goals omega
/-! ### Lists of numbers -/
def packI : List Int → Option (List UInt8)
  | [] => some []
  | x :: r => if signless x < 0 then none else (packI r).map (encodeVarint (signless x) ++ ·)
def packInts (xs : List Int) : List UInt8 := ((packI xs).map (encodeVarint xs.length ++ ·)).getD []
def unpackI (s : List UInt8) : Nat → List Int → Int → Option (List Int × Int)
  | 0, acc, p => some (acc, p)
  | n + 1, acc, p => match decodeVarint s p with
    | (v, m, true) => unpackI s n (acc ++ [signed v]) (p + m)
    | _ => none
/-- The list whose bytes begin at p, and where they end. -/
def unpackInts (s : List UInt8) (p : Int) : Option (List Int × Int) := match decodeVarint s p with
  | (n, m, true) => unpackI s n.toNat [] (p + m)
  | _ => none
theorem unpackI_few (s : List UInt8) : ∀ (n : Nat) (acc : List Int) (p : Int), s.length < p + n → unpackI s n acc p = none ∨ n = 0
  | 0, _, _, _ => .inr rfl
  | n + 1, acc, p, h => by
    refine .inl ?_
    unfold unpackI
    split
    · rename_i v m hd
      obtain ⟨h1, _, _, h2, h3, h4, _⟩ := decodeVarint_yes hd
      rcases unpackI_few s n (acc ++ [signed v]) (p + m) (by omega) with h5 | h5
      · exact h5
      · omega
    · rfl
theorem unpackI_sound (s : List UInt8) : ∀ (n : Nat) (acc : List Int) (p : Int) (l : List Int) (q : Int), 0 ≤ p → p ≤ s.length → unpackI s n acc p = some (l, q) →
    ∃ r : List Int, l = acc ++ r ∧ r.length = n ∧ p ≤ q ∧ q ≤ s.length ∧ packI r = some ((s.drop p.toNat).take (q - p).toNat)
  | 0, acc, p, l, q, h0, h1, h => by
    cases h
    exact ⟨[], by simp, rfl, Int.le_refl _, h1, by simp [packI]⟩
  | n + 1, acc, p, l, q, h0, h1, h => by
    unfold unpackI at h
    split at h
    · rename_i v m hd
      obtain ⟨g1, g2, g3, g4, g5, g6, g7⟩ := decodeVarint_yes hd
      obtain ⟨r, e1, e2, e3, e4, e5⟩ := unpackI_sound s n _ _ l q (by omega) (by omega) h
      have hs := signless_ed ⟨g2, g3⟩
      refine ⟨signed v :: r, by rw [e1]; simp, by simp [e2], by omega, e4, ?_⟩
      unfold packI
      rw [hs, if_neg (by omega), e5, g7]
      simp only [Option.map_some, Option.some.injEq]
      have a1 : (p + m).toNat = p.toNat + m.toNat := by omega
      have a2 : (q - p).toNat = m.toNat + (q - (p + m)).toNat := by omega
      rw [a1, a2, ← List.drop_drop, List.take_add]
    · cases h
theorem unpackInts_sound {s : List UInt8} {p : Int} {l : List Int} {q : Int} (h : unpackInts s p = some (l, q)) :
    0 ≤ p ∧ p < q ∧ q ≤ s.length ∧ l.length ≤ s.length ∧ packInts l = (s.drop p.toNat).take (q - p).toNat := by
  unfold unpackInts at h
  split at h
  · rename_i n m hd
    obtain ⟨g1, g2, g3, g4, g5, g6, g7⟩ := decodeVarint_yes hd
    have hfew := unpackI_few s n.toNat [] (p + m)
    obtain ⟨r, e1, e2, e3, e4, e5⟩ := unpackI_sound s _ _ _ l q (by omega) (by omega) h
    have hl : l = r := by rw [e1]; simp
    subst hl
    have hlen : l.length ≤ s.length := by
      apply Nat.le_of_not_lt
      intro hn
      rcases hfew (by omega) with h5 | h5
      · rw [h5] at h; cases h
      · omega
    refine ⟨g1, by omega, e4, hlen, ?_⟩
    unfold packInts
    rw [e5, e2]
    have a0 : ((n.toNat : Nat) : Int) = n := by omega
    have a1 : (p + m).toNat = p.toNat + m.toNat := by omega
    have a2 : (q - p).toNat = m.toNat + (q - (p + m)).toNat := by omega
    rw [a0, g7, a1, a2, ← List.drop_drop, List.take_add]
    rfl
  · cases h
theorem packI_len : ∀ (xs : List Int) (o : List UInt8), packI xs = some o → o.length ≤ 6 * xs.length
  | [], o, h => by cases h; simp
  | x :: r, o, h => by
    unfold packI at h
    split at h
    · cases h
    · cases hr : packI r with
      | none => rw [hr] at h; cases h
      | some b =>
        rw [hr] at h
        cases h
        have := packI_len r b hr
        have := encodeVarint_len (signless x)
        simp
        omega
theorem packInts_len (xs : List Int) : (packInts xs).length ≤ 6 + 6 * xs.length := by
  unfold packInts
  cases h : packI xs with
  | none => simp
  | some o =>
    have := packI_len xs o h
    have := encodeVarint_len xs.length
    simp
    omega
/-- What is written is read back. -/
theorem unpackI_pack : ∀ (xs : List Int) (a b acc o : _) , packI xs = some o → unpackI (a ++ o ++ b) xs.length acc a.length = some (acc ++ xs, ((a ++ o).length : Int))
  | [], a, b, acc, o, h => by cases h; simp [unpackI]
  | x :: r, a, b, acc, o, h => by
    unfold packI at h
    split at h
    · cases h
    · rename_i hx
      cases hr : packI r with
      | none => rw [hr] at h; cases h
      | some q =>
        rw [hr] at h
        cases h
        have hs := signless_in x
        have hd := decodeVarint_enc (n := signless x) ⟨by omega, hs.2⟩ a (q ++ b)
        have ih := unpackI_pack r (a ++ encodeVarint (signless x)) b (acc ++ [x]) q hr
        have e : a ++ (encodeVarint (signless x) ++ q) ++ b = a ++ encodeVarint (signless x) ++ (q ++ b) := by simp
        rw [List.length_cons, unpackI, e, hd]
        simp only [signed_less (Int.not_lt.1 hx)]
        have e2 : a ++ encodeVarint (signless x) ++ (q ++ b) = a ++ encodeVarint (signless x) ++ q ++ b := by simp
        have e3 : (a.length : Int) + ((encodeVarint (signless x)).length : Int) = ((a ++ encodeVarint (signless x)).length : Int) := by simp
        rw [e2, e3, ih]
        simp
theorem unpackInts_pack {xs : List Int} {a b o : List UInt8} (hx : xs.length ≤ 1099511627775) (h : packI xs = some o) : unpackInts (a ++ packInts xs ++ b) a.length = some (xs, ((a ++ packInts xs).length : Int)) := by
  have hp : packInts xs = encodeVarint xs.length ++ o := by unfold packInts; rw [h]; rfl
  have hd := decodeVarint_enc (n := (xs.length : Int)) ⟨by omega, by omega⟩ a (o ++ b)
  have hi := unpackI_pack xs (a ++ encodeVarint xs.length) b [] o h
  rw [hp]
  unfold unpackInts
  have e : a ++ (encodeVarint (xs.length : Int) ++ o) ++ b = a ++ encodeVarint xs.length ++ (o ++ b) := by simp
  rw [e, hd]
  have e2 : a ++ encodeVarint (xs.length : Int) ++ (o ++ b) = a ++ encodeVarint xs.length ++ o ++ b := by simp
  have e3 : (a.length : Int) + ((encodeVarint (xs.length : Int)).length : Int) = ((a ++ encodeVarint (xs.length : Int)).length : Int) := by simp
  simp only [Int.toNat_natCast]
  rw [e2, e3, hi]
  simp
/-! ### Runs -/
def runLen (x : Int) : List Int → Nat
  | [] => 0
  | y :: r => if y = x then runLen x r + 1 else 0
theorem runLen_le (x : Int) : ∀ xs : List Int, runLen x xs ≤ xs.length
  | [] => Nat.le_refl _
  | y :: r => by have := runLen_le x r
                 unfold runLen
                 split <;> simp <;> omega
theorem runLen_take (x : Int) : ∀ xs : List Int, xs.take (runLen x xs) = List.replicate (runLen x xs) x
  | [] => rfl
  | y :: r => by
    unfold runLen
    split
    · rename_i h
      rw [List.take_succ_cons, runLen_take x r, List.replicate_succ, h]
    · rfl
def packT : Nat → List Int → List UInt8
  | 0, _ => []
  | _ + 1, [] => []
  | f + 1, x :: r => encodeVarint (x + 16 * (runLen x (x :: r) : Int)) ++ packT f ((x :: r).drop (runLen x (x :: r)))
def inpOk (xs : List Int) : Bool := xs.all fun n => decide (0 ≤ n) && decide (n ≤ 15)
def packTrack (xs : List Int) : List UInt8 := if xs.length ≤ 400 ∧ inpOk xs = true then packT xs.length xs else []
theorem packT_more : ∀ (f g : Nat) (xs : List Int), xs.length ≤ f → xs.length ≤ g → packT f xs = packT g xs
  | 0, 0, _, _, _ => rfl
  | 0, _ + 1, [], _, _ => rfl
  | _ + 1, 0, [], _, _ => rfl
  | _ + 1, _ + 1, [], _, _ => rfl
  | 0, _, _ :: _, h, _ => by simp at h
  | _ + 1, 0, _ :: _, _, h => by simp at h
  | f + 1, g + 1, x :: r, h1, h2 => by
    unfold packT
    have h3 : 1 ≤ runLen x (x :: r) := by simp [runLen]
    rw [packT_more f g _ (by simp at *; omega) (by simp at *; omega)]
theorem packT_len : ∀ (f : Nat) (xs : List Int), (packT f xs).length ≤ 6 * f
  | 0, _ => by simp [packT]
  | _ + 1, [] => by simp [packT]
  | f + 1, x :: r => by
    unfold packT
    have := packT_len f ((x :: r).drop (runLen x (x :: r)))
    have := encodeVarint_len (x + 16 * (runLen x (x :: r) : Int))
    rw [List.length_append]
    omega
theorem packTrack_len (xs : List Int) : (packTrack xs).length ≤ 2400 := by
  unfold packTrack
  split
  · rename_i h
    have := packT_len xs.length xs
    omega
  · simp
def unpT (s : List UInt8) : Nat → Int → List Int → Option (List Int)
  | 0, _, _ => none
  | f + 1, p, acc => if p < s.length then (match decodeVarint s p with
    | (n, m, true) => if 400 - (acc.length : Int) < n / 16 then none else unpT s f (p + m) (acc ++ List.replicate (n / 16).toNat (n % 16))
    | _ => none) else some acc
def unpackTrack (s : List UInt8) : Option (List Int) := match unpT s (s.length + 1) 0 [] with
  | some l => if packTrack l = s then some l else none
  | none => none
theorem unpT_pack (s : List UInt8) : ∀ (f g : Nat) (xs acc : List Int) (a : List UInt8), s = a ++ packT f xs → xs.length ≤ f → (packT f xs).length < g → inpOk xs = true → acc.length + xs.length ≤ 400 → unpT s g a.length acc = some (acc ++ xs)
  | 0, g + 1, xs, acc, a, hs, hf, _, _, _ => by
    have : xs = [] := List.eq_nil_of_length_eq_zero (by omega)
    subst this
    rw [unpT, if_neg (by rw [hs]; simp [packT])]
    simp
  | _ + 1, g + 1, [], acc, a, hs, _, _, _, _ => by
    rw [unpT, if_neg (by rw [hs]; simp [packT])]
    simp
  | f + 1, g + 1, x :: r, acc, a, hs, hf, hg, hi, hl => by
    have h1 : 1 ≤ runLen x (x :: r) := by simp [runLen]
    have h2 := runLen_le x (x :: r)
    have hx : 0 ≤ x ∧ x ≤ 15 := by
      have := List.all_eq_true.1 hi x (by simp)
      simpa using this
    have hr : inpOk ((x :: r).drop (runLen x (x :: r))) = true := List.all_eq_true.2 fun y hy => List.all_eq_true.1 hi y (List.mem_of_mem_drop hy)
    have ht := runLen_take x (x :: r)
    have htd := List.take_append_drop (runLen x (x :: r)) (x :: r)
    unfold packT at hs
    generalize hn : runLen x (x :: r) = n at *
    simp only [List.length_cons] at hf h2 hl
    have hv : 0 ≤ x + 16 * (n : Int) ∧ x + 16 * (n : Int) ≤ 1099511627775 := by omega
    unfold packT at hg
    rw [hn, List.length_append] at hg
    have hd := decodeVarint_enc hv a (packT f ((x :: r).drop n))
    have hp := encodeVarint_pos hv
    rw [← List.append_assoc] at hs
    rw [← hs] at hd
    have hlt : (a.length : Int) < s.length := by rw [hs]; simp; omega
    rw [unpT, if_pos hlt, hd]
    have e1 : (x + 16 * (n : Int)) / 16 = n := by omega
    have e2 : (x + 16 * (n : Int)) % 16 = x := by omega
    simp only [e1, e2, Int.toNat_natCast]
    rw [if_neg (by omega)]
    have ih := unpT_pack s f g ((x :: r).drop n) (acc ++ List.replicate n x) (a ++ encodeVarint (x + 16 * (n : Int))) hs (by simp; omega) (by omega) hr (by simp; omega)
    have e3 : (a.length : Int) + ((encodeVarint (x + 16 * (n : Int))).length : Int) = ((a ++ encodeVarint (x + 16 * (n : Int))).length : Int) := by simp
    rw [e3, ih, List.append_assoc, ← ht, htd]
theorem unpackTrack_pack {xs : List Int} (h : xs.length ≤ 400 ∧ inpOk xs = true) : unpackTrack (packTrack xs) = some xs := by
  have hp : packTrack xs = packT xs.length xs := if_pos h
  have hu := unpT_pack (packTrack xs) xs.length ((packTrack xs).length + 1) xs [] [] (by rw [hp]; rfl) (Nat.le_refl _) (by rw [hp]; omega) h.2 (by simpa using h.1)
  unfold unpackTrack
  rw [show ((0 : Int)) = (([] : List UInt8).length : Int) from rfl, hu]
  simp
/-! ### Texts -/
def packText (s : List UInt8) : List UInt8 := encodeVarint s.length ++ s
def unpackText (s : List UInt8) (p : Int) : Option (List UInt8 × Int) := match decodeVarint s p with
  | (n, m, true) => if (s.length : Int) - p - m < n then none else some ((s.drop (p + m).toNat).take n.toNat, m + n)
  | _ => none
theorem unpackText_sound {s t : List UInt8} {p q : Int} (h : unpackText s p = some (t, q)) : 0 ≤ p ∧ 0 < q ∧ p + q ≤ s.length ∧ packText t = (s.drop p.toNat).take q.toNat := by
  unfold unpackText at h
  split at h
  · rename_i n m hd
    obtain ⟨g1, g2, g3, g4, g5, g6, g7⟩ := decodeVarint_yes hd
    split at h
    · cases h
    · cases h
      refine ⟨g1, by omega, by omega, ?_⟩
      have hl : ((s.drop (p + m).toNat).take n.toNat).length = n.toNat := by rw [List.length_take, List.length_drop]; omega
      unfold packText
      rw [hl]
      have a0 : ((n.toNat : Nat) : Int) = n := by omega
      have a1 : (p + m).toNat = p.toNat + m.toNat := by omega
      have a2 : (m + n).toNat = m.toNat + n.toNat := by omega
      rw [a0, g7, a1, a2, ← List.drop_drop, List.take_add]
  · cases h
theorem unpackText_pack {a b t : List UInt8} (h : t.length ≤ 1099511627775) : unpackText (a ++ packText t ++ b) a.length = some (t, ((packText t).length : Int)) := by
  have hd := decodeVarint_enc (n := (t.length : Int)) ⟨by omega, by omega⟩ a (t ++ b)
  have e : a ++ packText t ++ b = a ++ encodeVarint (t.length : Int) ++ (t ++ b) := by simp [packText]
  unfold unpackText
  rw [e, hd]
  simp only []
  rw [if_neg (by simp; omega)]
  have e2 : ((a.length : Int) + ((encodeVarint (t.length : Int)).length : Int)).toNat = (a ++ encodeVarint (t.length : Int)).length := by simp; omega
  rw [e2, List.drop_left, Int.toNat_natCast, List.take_left]
  simp [packText]
/-! ### Sealed texts -/
def csGo : List UInt8 → Int → Int → Int → Int × Int
  | [], _, a, b => (a, b)
  | c :: r, k, a, b => csGo r (k + 1) ((a + c.toNat) % 65521) ((b + c.toNat * ((k + 1) % 65521)) % 65521)
def checksum (s : List UInt8) : Int := (csGo s 0 0 0).1 + 65536 * (csGo s 0 0 0).2
theorem csGo_in : ∀ (s : List UInt8) (k a b : Int), 0 ≤ a ∧ a < 65521 → 0 ≤ b ∧ b < 65521 → (0 ≤ (csGo s k a b).1 ∧ (csGo s k a b).1 < 65521) ∧ (0 ≤ (csGo s k a b).2 ∧ (csGo s k a b).2 < 65521)
  | [], _, _, _, ha, hb => ⟨ha, hb⟩
  | c :: r, k, a, b, ha, hb => csGo_in r _ _ _ ⟨Int.emod_nonneg _ (by decide), Int.emod_lt_of_pos _ (by decide)⟩ ⟨Int.emod_nonneg _ (by decide), Int.emod_lt_of_pos _ (by decide)⟩
theorem checksum_in (s : List UInt8) : 0 ≤ checksum s ∧ checksum s ≤ 4294967295 ∧ checksum s % 65536 < 65521 ∧ checksum s / 65536 < 65521 := by
  have h := csGo_in s 0 0 0 (by decide) (by decide)
  unfold checksum
  omega
def headOf (x : Int) : List UInt8 := [UInt8.ofNat (x % 256).toNat, UInt8.ofNat (x / 256 % 256).toNat, UInt8.ofNat (x / 65536 % 256).toNat, UInt8.ofNat (x / 16777216 % 256).toNat]
def sealText (s : List UInt8) : List UInt8 := headOf (checksum s) ++ s
def openText (s : List UInt8) : Option (List UInt8) := if s.length < 4 then none else if sealText (s.drop 4) = s then some (s.drop 4) else none
theorem openText_sound {s b : List UInt8} (h : openText s = some b) : sealText b = s := by
  unfold openText at h
  split at h
  · cases h
  · split at h
    · rename_i h1; cases h; exact h1
    · cases h
theorem sealText_len (s : List UInt8) : (sealText s).length = s.length + 4 := by simp [sealText, headOf]
theorem openText_seal (s : List UInt8) : openText (sealText s) = some s := by
  have h : (sealText s).drop 4 = s := by simp [sealText, headOf]
  unfold openText
  rw [if_neg (by rw [sealText_len]; omega), h, if_pos rfl]
def pktBody (head acks ins : List Int) : List UInt8 := packInts head ++ packInts acks ++ packText (packTrack ins)
def decParts (t : List UInt8) : Option (List Int × List Int × List Int) := match openText t with
  | none => none
  | some s => match unpackInts s 0 with
    | none => none
    | some (head, a) => if head.length ≠ 7 then none else match unpackInts s a with
      | none => none
      | some (acks, b) => match unpackText s b with
        | none => none
        | some (text, c) => if b + c ≠ s.length then none else match unpackTrack text with
          | none => none
          | some ins => some (head, acks, ins)
theorem decParts_pack {head acks ins : List Int} {o p : List UInt8} (h7 : head.length = 7) (ha : acks.length ≤ 1099511627775) (h1 : packI head = some o) (h2 : packI acks = some p) (hi : ins.length ≤ 400 ∧ inpOk ins = true) :
    decParts (sealText (pktBody head acks ins)) = some (head, acks, ins) := by
  have hl := packTrack_len ins
  have e1 := unpackInts_pack (xs := head) (a := []) (b := packInts acks ++ packText (packTrack ins)) (by omega) h1
  have e2 := unpackInts_pack (xs := acks) (a := packInts head) (b := packText (packTrack ins)) ha h2
  have e3 := unpackText_pack (a := packInts head ++ packInts acks) (b := []) (t := packTrack ins) (by omega)
  have b1 : [] ++ packInts head ++ (packInts acks ++ packText (packTrack ins)) = pktBody head acks ins := by simp [pktBody]
  have b2 : packInts head ++ packInts acks ++ packText (packTrack ins) = pktBody head acks ins := rfl
  have b3 : packInts head ++ packInts acks ++ packText (packTrack ins) ++ [] = pktBody head acks ins := by simp [pktBody]
  rw [b1] at e1
  rw [b2] at e2
  rw [b3] at e3
  have e0 : (([] : List UInt8).length : Int) = 0 := rfl
  rw [e0, List.nil_append] at e1
  unfold decParts
  rw [openText_seal]
  simp only [e1]
  rw [if_neg (by omega)]
  simp only [e2, e3]
  rw [if_neg (by simp [pktBody]; omega), unpackTrack_pack hi]
/-! ### One changed byte -/
theorem csGo_fst : ∀ (s : List UInt8) (k a b : Int), 0 ≤ a ∧ a < 65521 → (csGo s k a b).1 = (a + (s.map fun c => (c.toNat : Int)).sum) % 65521
  | [], _, a, b, h => by simp [csGo]; omega
  | c :: r, k, a, b, h => by
    rw [csGo, csGo_fst r _ _ _ ⟨Int.emod_nonneg _ (by decide), Int.emod_lt_of_pos _ (by decide)⟩, List.map_cons, List.sum_cons]
    omega
theorem sum_set : ∀ (s : List UInt8) (k : Nat) (x : UInt8) (_ : k < s.length), ((s.set k x).map fun c => (c.toNat : Int)).sum = (s.map fun c => (c.toNat : Int)).sum - ((s.getD k 0).toNat : Int) + (x.toNat : Int)
  | [], k, x, h => absurd h (by simp)
  | c :: r, 0, x, h => by simp; omega
  | c :: r, k + 1, x, h => by
    have ih := sum_set r k x (by simpa using h)
    simp only [List.set_cons_succ, List.map_cons, List.sum_cons, ih, List.getD_cons_succ]
    omega
theorem checksum_set {s : List UInt8} {k : Nat} {x : UInt8} (hk : k < s.length) (hx : x ≠ s.getD k 0) : checksum (s.set k x) % 65536 ≠ checksum s % 65536 := by
  have h1 := csGo_fst s 0 0 0 (by decide)
  have h2 := csGo_fst (s.set k x) 0 0 0 (by decide)
  have h3 := sum_set s k x hk
  have hne : x.toNat ≠ (s.getD k 0).toNat := fun e => hx (UInt8.toNat.inj e)
  have b1 := x.toNat_lt
  have b2 := (s.getD k 0).toNat_lt
  unfold checksum
  rw [h1, h2, h3]
  omega
theorem headOf_inj {x y : Int} (hx : 0 ≤ x) (hy : 0 ≤ y) (h : headOf x = headOf y) : x % 65536 = y % 65536 := by
  unfold headOf at h
  simp only [List.cons.injEq, and_true] at h
  obtain ⟨h1, h2, _, _⟩ := h
  have g1 := congrArg UInt8.toNat h1
  have g2 := congrArg UInt8.toNat h2
  simp at g1 g2
  omega
theorem openText_set {s : List UInt8} {k : Nat} {x : UInt8} (hk : k < (sealText s).length) (hx : x ≠ (sealText s).getD k 0) : openText ((sealText s).set k x) = none := by
  have hd : (sealText s).drop 4 = s := by simp [sealText, headOf]
  have hl := sealText_len s
  have ht : (sealText s).take 4 = headOf (checksum s) := by simp [sealText, headOf]
  unfold openText
  rw [List.length_set, if_neg (by omega), if_neg]
  intro h
  by_cases h4 : k < 4
  · have e1 : ((sealText s).set k x).drop 4 = s := by rw [List.drop_set, if_pos (by omega), hd]
    rw [e1] at h
    have h5 := congrArg (fun l => l.getD k 0) h
    simp [List.getD_eq_getElem?_getD, hk] at h5
    simp [List.getD_eq_getElem?_getD, hk] at hx
    exact hx h5.symm
  · have e1 : ((sealText s).set k x).drop 4 = s.set (k - 4) x := by rw [List.drop_set, if_neg (by omega), hd]
    rw [e1] at h
    have h5 := congrArg (List.take 4) h
    have e2 : ((sealText s).set k x).take 4 = headOf (checksum s) := by rw [List.take_set_of_le (by omega), ht]
    rw [e2] at h5
    have e3 : (sealText (s.set (k - 4) x)).take 4 = headOf (checksum (s.set (k - 4) x)) := by simp [sealText, headOf]
    rw [e3] at h5
    refine checksum_set (s := s) (k := k - 4) (x := x) (by omega) ?_ (headOf_inj (checksum_in _).1 (checksum_in _).1 h5)
    have e4 : (sealText s).getD k 0 = s.getD (k - 4) 0 := by
      obtain ⟨j, rfl⟩ : ∃ j, k = j + 4 := ⟨k - 4, by omega⟩
      simp [sealText, headOf, List.getD_eq_getElem?_getD]
    rwa [e4] at hx
end Go.Proofs.Ythlpbojljpamlaa
