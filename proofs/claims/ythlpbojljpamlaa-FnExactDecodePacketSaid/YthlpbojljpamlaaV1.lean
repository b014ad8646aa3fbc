/- What is proved: numbers as bytes, seven bits in each: how they are written and read, in plain terms.
   Conditions: none. -/
import Derived.WalkArith
namespace Go.Proofs.Ythlpbojljpamlaa
/-! ### Written -/
def encN (n : Nat) : List UInt8 := if n < 128 then [UInt8.ofNat n] else UInt8.ofNat (n % 128 + 128) :: encN (n / 128)
termination_by n
decreasing_by omega
theorem encN_lt {n : Nat} (h : n < 128) : encN n = [UInt8.ofNat n] := by rw [encN, if_pos h]
theorem encN_ge {n : Nat} (h : 128 ≤ n) : encN n = UInt8.ofNat (n % 128 + 128) :: encN (n / 128) := by rw [encN, if_neg (by omega)]
def encodeVarint (n : Int) : List UInt8 := if 0 ≤ n ∧ n ≤ 1099511627775 then encN n.toNat else []
/-- Enough bytes have no room for more. -/
theorem encN_len : ∀ (m n : Nat), n < 128 ^ (m + 1) → (encN n).length ≤ m + 1
  | 0, n, h => by rw [encN_lt (by simpa using h)]; simp
  | m + 1, n, h => by
    by_cases h1 : n < 128
    · rw [encN_lt h1]; simp
    · rw [encN_ge (by omega), List.length_cons]
      have := encN_len m (n / 128) (by rw [Nat.div_lt_iff_lt_mul (by decide)]; rw [Nat.pow_succ] at h; exact h)
      omega
theorem encN_pos (n : Nat) : 0 < (encN n).length := by
  by_cases h : n < 128
  · rw [encN_lt h]; simp
  · rw [encN_ge (by omega)]; simp
/-! ### Read -/
def valB : List UInt8 → Nat
  | [] => 0
  | b :: r => b.toNat % 128 + 128 * valB r
/-- Reading on behind k bytes that came to n. -/
def decI : Nat → Nat → Nat → List UInt8 → Option (Nat × Nat)
  | 0, _, _, _ => none
  | _ + 1, _, _, [] => none
  | f + 1, k, n, c :: r => if 128 ≤ c.toNat then decI f (k + 1) (n + c.toNat % 128 * 128 ^ k) r else
      if (c.toNat = 0 ∧ 0 < k) ∨ 1099511627775 < n + c.toNat % 128 * 128 ^ k then none else some (n + c.toNat % 128 * 128 ^ k, k + 1)
def decodeVarint (s : List UInt8) (at_ : Int) : Int × Int × Bool :=
  if at_ < 0 then (0, 0, false) else match decI 6 0 0 (s.drop at_.toNat) with | some (n, m) => (n, m, true) | none => (0, 0, false)
theorem valB_append (bs : List UInt8) (c : UInt8) : valB (bs ++ [c]) = valB bs + c.toNat % 128 * 128 ^ bs.length := by
  induction bs with
  | nil => simp [valB]
  | cons b r ih =>
    rw [List.cons_append, valB, ih, valB, List.length_cons, Nat.pow_succ, Nat.mul_add]
    have : 128 * (c.toNat % 128 * 128 ^ r.length) = c.toNat % 128 * (128 ^ r.length * 128) := by rw [Nat.mul_comm 128, Nat.mul_assoc]
    rw [this, Nat.add_assoc]
theorem ofNat_toNat (b : UInt8) : UInt8.ofNat b.toNat = b := by simp
/-- Bytes that say that more follow, and one that does not: just they are the number's bytes. -/
theorem encN_valB : ∀ (bs : List UInt8) (c : UInt8), (∀ b ∈ bs, 128 ≤ b.toNat) → c.toNat < 128 → (c.toNat ≠ 0 ∨ bs = []) → encN (valB (bs ++ [c])) = bs ++ [c]
  | [], c, _, hc, _ => by
    have : valB [c] = c.toNat := by simp [valB]; omega
    rw [List.nil_append, this, encN_lt hc, ofNat_toNat]
  | b :: r, c, hb, hc, h0 => by
    have h1 : c.toNat ≠ 0 := h0.resolve_right (by simp)
    have ih := encN_valB r c (fun x hx => hb x (by simp [hx])) hc (.inl h1)
    have hv : 1 ≤ valB (r ++ [c]) := by
      rw [valB_append]
      have : 1 ≤ c.toNat % 128 * 128 ^ r.length := Nat.mul_pos (by omega) (Nat.pow_pos (by decide))
      omega
    have hbl := hb b (by simp)
    have hbu := b.toNat_lt
    rw [List.cons_append, valB, encN_ge (by omega)]
    have e1 : (b.toNat % 128 + 128 * valB (r ++ [c])) / 128 = valB (r ++ [c]) := by omega
    have e2 : (b.toNat % 128 + 128 * valB (r ++ [c])) % 128 + 128 = b.toNat := by omega
    rw [e1, e2, ih, ofNat_toNat]
/-- No number's bytes end in 0, but for 0 itself. -/
theorem encN_last : ∀ (n : Nat) (bs : List UInt8), encN n = bs ++ [0] → bs = []
  | n, bs, h => by
    by_cases h1 : n < 128
    · rw [encN_lt h1] at h
      have := congrArg List.length h
      simp at this
      exact this
    · rw [encN_ge (by omega)] at h
      cases bs with
      | nil => rfl
      | cons b r =>
        rw [List.cons_append, List.cons.injEq] at h
        have h3 := encN_last (n / 128) r h.2
        subst h3
        have h4 := h.2
        by_cases h5 : n / 128 < 128
        · rw [encN_lt h5] at h4
          simp at h4
          have h6 := congrArg UInt8.toNat h4
          simp at h6
          omega
        · rw [encN_ge (by omega)] at h4
          have h6 := congrArg List.length h4
          have := encN_pos (n / 128 / 128)
          simp at h6
          rw [h6] at this
          exact absurd this (by simp)
termination_by n => n
decreasing_by omega
theorem encN_inj_of {bs : List UInt8} {c : UInt8} (hb : ∀ b ∈ bs, 128 ≤ b.toNat) (hc : c.toNat < 128) : encodeVarint (valB (bs ++ [c]) : Nat) = bs ++ [c] ↔ ¬ ((c.toNat = 0 ∧ 0 < bs.length) ∨ 1099511627775 < valB (bs ++ [c])) := by
  constructor
  · intro h hn
    rcases hn with ⟨h1, h2⟩ | h1
    · have hc0 : c = 0 := by apply UInt8.toNat.inj; simpa using h1
      subst hc0
      unfold encodeVarint at h
      split at h
      · rw [Int.toNat_natCast] at h
        rw [encN_last _ _ h] at h2
        cases h2
      · simp at h
    · unfold encodeVarint at h
      rw [if_neg (by omega)] at h
      simp at h
  · intro hn
    have h1 : c.toNat ≠ 0 ∨ bs = [] := by
      by_cases h : c.toNat = 0
      · right
        cases bs with
        | nil => rfl
        | cons b r => exact absurd (.inl ⟨h, by simp⟩) hn
      · exact .inl h
    have h2 : ¬ 1099511627775 < valB (bs ++ [c]) := fun h => hn (.inr h)
    unfold encodeVarint
    rw [if_pos (by omega), Int.toNat_natCast, encN_valB bs c hb hc h1]
/-- What is written is read back. -/
theorem decI_encN : ∀ (f k n m : Nat) (r : List UInt8), m < 128 ^ f → 0 < f → n + m * 128 ^ k ≤ 1099511627775 → (k = 0 ∨ 0 < m) → decI f k n (encN m ++ r) = some (n + m * 128 ^ k, k + (encN m).length)
  | 0, _, _, _, _, _, h, _, _ => absurd h (by decide)
  | f + 1, k, n, m, r, h, _, hx, h0 => by
    by_cases h1 : m < 128
    · rw [encN_lt h1]
      have h2 : (UInt8.ofNat m).toNat = m := by simp; omega
      have h3 : m % 128 = m := Nat.mod_eq_of_lt h1
      simp only [List.singleton_append, decI, h2]
      rw [if_neg (by omega), h3, if_neg (by omega)]
      rfl
    · rw [encN_ge (by omega)]
      have h2 : (UInt8.ofNat (m % 128 + 128)).toNat = m % 128 + 128 := by simp; omega
      have h3 : (m % 128 + 128) % 128 = m % 128 := by omega
      simp only [List.cons_append, decI, h2]
      rw [if_pos (by omega), h3]
      have hd : n + m % 128 * 128 ^ k + m / 128 * 128 ^ (k + 1) = n + m * 128 ^ k := by
        rw [Nat.pow_succ, Nat.add_assoc, Nat.mul_comm (128 ^ k) 128, ← Nat.mul_assoc, ← Nat.add_mul]
        congr 2
        omega
      have hf : 0 < f := by
        cases f with
        | zero => simp at h; omega
        | succ f => omega
      rw [decI_encN f (k + 1) (n + m % 128 * 128 ^ k) (m / 128) r (by rw [Nat.div_lt_iff_lt_mul (by decide), ← Nat.pow_succ]; exact h) hf (by rw [hd]; exact hx) (.inr (by omega)), hd]
      congr 2
      rw [List.length_cons]
      omega
theorem decodeVarint_enc {n : Int} (h : 0 ≤ n ∧ n ≤ 1099511627775) (p r : List UInt8) : decodeVarint (p ++ encodeVarint n ++ r) p.length = (n, ((encodeVarint n).length : Int), true) := by
  unfold decodeVarint encodeVarint
  rw [if_pos h, if_neg (by omega), Int.toNat_natCast, List.append_assoc, List.drop_left, decI_encN 6 0 0 n.toNat r (by have : (128 : Nat) ^ 6 = 4398046511104 := (by decide); omega) (by decide) (by simp; omega) (.inl rfl)]
  simp
  omega
end Go.Proofs.Ythlpbojljpamlaa
