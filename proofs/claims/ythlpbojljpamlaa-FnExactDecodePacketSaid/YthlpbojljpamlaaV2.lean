/- What is proved: lists of numbers, runs of inputs and sealed texts as bytes: how they are written and read, in plain terms.
   Conditions: none. -/
import Derived.Test.YthlpbojljpamlaaV1
namespace Go.Proofs.Ythlpbojljpamlaa
/-! ### One number -/
theorem decI_sound : ∀ (f k n : Nat) (s : List UInt8) (v m : Nat), decI f k n s = some (v, m) →
    ∃ bs c r, s = bs ++ c :: r ∧ (∀ b ∈ bs, 128 ≤ b.toNat) ∧ c.toNat < 128 ∧ v = n + valB (bs ++ [c]) * 128 ^ k ∧ m = k + bs.length + 1 ∧ bs.length < f ∧ ¬ ((c.toNat = 0 ∧ 0 < k + bs.length) ∨ 1099511627775 < v)
  | 0, _, _, _, _, _, h => by cases h
  | _ + 1, _, _, [], _, _, h => by cases h
  | f + 1, k, n, c :: r, v, m, h => by
    unfold decI at h
    split at h
    · rename_i hc
      obtain ⟨bs, d, q, h1, h2, h3, h4, h5, h6, h7⟩ := decI_sound f (k + 1) _ r v m h
      refine ⟨c :: bs, d, q, by rw [h1]; rfl, ?_, h3, ?_, by simp; omega, by simp; omega, by simpa [Nat.add_assoc, Nat.add_comm 1] using h7⟩
      · intro b hb
        rcases List.mem_cons.1 hb with rfl | hb
        · exact hc
        · exact h2 b hb
      · rw [h4, List.cons_append, valB, Nat.add_mul, Nat.pow_succ, Nat.add_assoc]
        congr 2
        rw [Nat.mul_comm (128 ^ k) 128, ← Nat.mul_assoc, Nat.mul_comm (valB (bs ++ [d])) 128]
    · rename_i hc
      split at h
      · cases h
      · rename_i hx
        simp only [Option.some.injEq, Prod.mk.injEq] at h
        obtain ⟨rfl, rfl⟩ := h
        refine ⟨[], c, r, rfl, by simp, by omega, by simp [valB], by simp, by simp, by simpa using hx⟩
theorem decI_bound {f k n v m : Nat} {s : List UInt8} (h : decI f k n s = some (v, m)) : m ≤ k + f ∧ k < m ∧ m ≤ k + s.length ∧ v ≤ 1099511627775 := by
  obtain ⟨bs, c, r, h1, _, _, _, h5, h6, h7⟩ := decI_sound f k n s v m h
  have hl := congrArg List.length h1
  simp only [List.length_append, List.length_cons] at hl
  refine ⟨by omega, by omega, by omega, ?_⟩
  exact Nat.le_of_not_lt fun h => h7 (.inr h)
theorem decodeVarint_no {s : List UInt8} {p n m : Int} (h : decodeVarint s p = (n, m, false)) : n = 0 ∧ m = 0 := by
  unfold decodeVarint at h
  split at h
  · cases h; exact ⟨rfl, rfl⟩
  · split at h
    · cases h
    · cases h; exact ⟨rfl, rfl⟩
theorem decodeVarint_yes {s : List UInt8} {p n m : Int} (h : decodeVarint s p = (n, m, true)) :
    0 ≤ p ∧ 0 ≤ n ∧ n ≤ 1099511627775 ∧ 1 ≤ m ∧ m ≤ 6 ∧ p + m ≤ s.length ∧ encodeVarint n = (s.drop p.toNat).take m.toNat := by
  unfold decodeVarint at h
  split at h
  · cases h
  · rename_i hp
    split at h
    · rename_i v q hd
      cases h
      obtain ⟨h1, h2, h3, h4⟩ := decI_bound hd
      obtain ⟨bs, c, r, g1, g2, g3, g4, g5, g6, g7⟩ := decI_sound _ _ _ _ _ _ hd
      rw [List.length_drop] at h3
      refine ⟨by omega, by omega, by omega, by omega, by omega, by omega, ?_⟩
      have hv : v = valB (bs ++ [c]) := by rw [g4]; simp
      subst hv
      rw [(encN_inj_of g2 g3).2 (by simpa using g7), g1]
      have : (q : Int).toNat = bs.length + 1 := by omega
      rw [this, List.take_append]
      simp
      exact (List.take_of_length_le (by omega)).symm
    · cases h
theorem encodeVarint_len (n : Int) : (encodeVarint n).length ≤ 6 := by
  unfold encodeVarint
  split
  · exact encN_len 5 n.toNat (by have : (128 : Nat) ^ 6 = 4398046511104 := (by decide); omega)
  · simp
theorem encodeVarint_pos {n : Int} (h : 0 ≤ n ∧ n ≤ 1099511627775) : 0 < (encodeVarint n).length := by
  unfold encodeVarint
  rw [if_pos h]
  exact encN_pos _
/-- The reference reads the same: what it has read so far must be just the number's bytes. -/
theorem decI_canon (f k : Nat) (bs : List UInt8) (c : UInt8) (r : List UInt8) (hk : bs.length = k) (hb : ∀ b ∈ bs, 128 ≤ b.toNat) (hc : c.toNat < 128) :
    decI (f + 1) k (valB bs) (c :: r) = if encodeVarint (valB (bs ++ [c]) : Nat) = bs ++ [c] then some (valB (bs ++ [c]), k + 1) else none := by
  have h1 := encN_inj_of hb hc
  have h2 := valB_append bs c
  rw [hk] at h1 h2
  unfold decI
  rw [if_neg (by omega), ← h2]
  by_cases h : (c.toNat = 0 ∧ 0 < k) ∨ 1099511627775 < valB (bs ++ [c])
  · rw [if_pos h, if_neg fun h3 => h1.1 h3 h]
  · rw [if_neg h, if_pos (h1.2 h)]
theorem decI_more (f k n : Nat) (c : UInt8) (r : List UInt8) (hc : 128 ≤ c.toNat) : decI (f + 1) k n (c :: r) = decI f (k + 1) (n + c.toNat % 128 * 128 ^ k) r := by
  rw [decI, if_pos hc]
theorem valB_lt : ∀ bs : List UInt8, valB bs < 128 ^ bs.length
  | [] => by simp [valB]
  | b :: r => by
    have := valB_lt r
    have h1 : b.toNat % 128 < 128 := Nat.mod_lt _ (by decide)
    rw [valB, List.length_cons, Nat.pow_succ]
    omega
/-! ### Numbers with a sign -/
def signless (n : Int) : Int := if n < -549755813888 ∨ 549755813887 < n then -1 else if 0 ≤ n then 2 * n else -2 * n - 1
def signed (n : Int) : Int := if n < 0 ∨ 1099511627775 < n then 0 else if n % 2 = 0 then n / 2 else -((n + 1) / 2)
theorem signless_in (n : Int) : -1 ≤ signless n ∧ signless n ≤ 1099511627775 := by unfold signless; repeat' split
                                                                                   all_goals omega
theorem signed_less {n : Int} (h : 0 ≤ signless n) : signed (signless n) = n := by
  unfold signless at *
  unfold signed
  repeat' split at *
  all_goals omega
theorem signless_ed {n : Int} (h : 0 ≤ n ∧ n ≤ 1099511627775) : signless (signed n) = n := by
  unfold signed signless
  repeat' split
  all_goals omega
/-! ### Lists of numbers -/
def packI : List Int → Option (List UInt8)
  | [] => some []
  | x :: r => if signless x < 0 then none else (packI r).map (encodeVarint (signless x) ++ ·)
def packInts (xs : List Int) : List UInt8 := ((packI xs).map (encodeVarint xs.length ++ ·)).getD []
def unpackI (s : List UInt8) : Nat → List Int → Int → Option (List Int × Int)
  | 0, acc, p => some (acc, p)
  | n + 1, acc, p => match decodeVarint s p with
    | (v, m, true) => unpackI s n (acc ++ [signed v]) (p + m)
    | _ => none
/-- The list whose bytes begin at p, and where they end. -/
def unpackInts (s : List UInt8) (p : Int) : Option (List Int × Int) := match decodeVarint s p with
  | (n, m, true) => unpackI s n.toNat [] (p + m)
  | _ => none
theorem unpackI_few (s : List UInt8) : ∀ (n : Nat) (acc : List Int) (p : Int), s.length < p + n → unpackI s n acc p = none ∨ n = 0
  | 0, _, _, _ => .inr rfl
  | n + 1, acc, p, h => by
    refine .inl ?_
    unfold unpackI
    split
    · rename_i v m hd
      obtain ⟨h1, _, _, h2, h3, h4, _⟩ := decodeVarint_yes hd
      rcases unpackI_few s n (acc ++ [signed v]) (p + m) (by omega) with h5 | h5
      · exact h5
      · omega
    · rfl
theorem unpackI_sound (s : List UInt8) : ∀ (n : Nat) (acc : List Int) (p : Int) (l : List Int) (q : Int), 0 ≤ p → p ≤ s.length → unpackI s n acc p = some (l, q) →
    ∃ r : List Int, l = acc ++ r ∧ r.length = n ∧ p ≤ q ∧ q ≤ s.length ∧ packI r = some ((s.drop p.toNat).take (q - p).toNat)
  | 0, acc, p, l, q, h0, h1, h => by
    cases h
    exact ⟨[], by simp, rfl, Int.le_refl _, h1, by simp [packI]⟩
  | n + 1, acc, p, l, q, h0, h1, h => by
    unfold unpackI at h
    split at h
    · rename_i v m hd
      obtain ⟨g1, g2, g3, g4, g5, g6, g7⟩ := decodeVarint_yes hd
      obtain ⟨r, e1, e2, e3, e4, e5⟩ := unpackI_sound s n _ _ l q (by omega) (by omega) h
      have hs := signless_ed ⟨g2, g3⟩
      refine ⟨signed v :: r, by rw [e1]; simp, by simp [e2], by omega, e4, ?_⟩
      unfold packI
      rw [hs, if_neg (by omega), e5, g7]
      simp only [Option.map_some, Option.some.injEq]
      have a1 : (p + m).toNat = p.toNat + m.toNat := by omega
      have a2 : (q - p).toNat = m.toNat + (q - (p + m)).toNat := by omega
      rw [a1, a2, ← List.drop_drop, List.take_add]
    · cases h
theorem unpackInts_sound {s : List UInt8} {p : Int} {l : List Int} {q : Int} (h : unpackInts s p = some (l, q)) :
    0 ≤ p ∧ p < q ∧ q ≤ s.length ∧ l.length ≤ s.length ∧ packInts l = (s.drop p.toNat).take (q - p).toNat := by
  unfold unpackInts at h
  split at h
  · rename_i n m hd
    obtain ⟨g1, g2, g3, g4, g5, g6, g7⟩ := decodeVarint_yes hd
    have hfew := unpackI_few s n.toNat [] (p + m)
    obtain ⟨r, e1, e2, e3, e4, e5⟩ := unpackI_sound s _ _ _ l q (by omega) (by omega) h
    have hl : l = r := by rw [e1]; simp
    subst hl
    have hlen : l.length ≤ s.length := by
      apply Nat.le_of_not_lt
      intro hn
      rcases hfew (by omega) with h5 | h5
      · rw [h5] at h; cases h
      · omega
    refine ⟨g1, by omega, e4, hlen, ?_⟩
    unfold packInts
    rw [e5, e2]
    have a0 : ((n.toNat : Nat) : Int) = n := by omega
    have a1 : (p + m).toNat = p.toNat + m.toNat := by omega
    have a2 : (q - p).toNat = m.toNat + (q - (p + m)).toNat := by omega
    rw [a0, g7, a1, a2, ← List.drop_drop, List.take_add]
    rfl
  · cases h
theorem packI_len : ∀ (xs : List Int) (o : List UInt8), packI xs = some o → o.length ≤ 6 * xs.length
  | [], o, h => by cases h; simp
  | x :: r, o, h => by
    unfold packI at h
    split at h
    · cases h
    · cases hr : packI r with
      | none => rw [hr] at h; cases h
      | some b =>
        rw [hr] at h
        cases h
        have := packI_len r b hr
        have := encodeVarint_len (signless x)
        simp
        omega
theorem packInts_len (xs : List Int) : (packInts xs).length ≤ 6 + 6 * xs.length := by
  unfold packInts
  cases h : packI xs with
  | none => simp
  | some o =>
    have := packI_len xs o h
    have := encodeVarint_len xs.length
    simp
    omega
/-- What is written is read back. -/
theorem unpackI_pack : ∀ (xs : List Int) (a b acc o : _) , packI xs = some o → unpackI (a ++ o ++ b) xs.length acc a.length = some (acc ++ xs, ((a ++ o).length : Int))
  | [], a, b, acc, o, h => by cases h; simp [unpackI]
  | x :: r, a, b, acc, o, h => by
    unfold packI at h
    split at h
    · cases h
    · rename_i hx
      cases hr : packI r with
      | none => rw [hr] at h; cases h
      | some q =>
        rw [hr] at h
        cases h
        have hs := signless_in x
        have hd := decodeVarint_enc (n := signless x) ⟨by omega, hs.2⟩ a (q ++ b)
        have ih := unpackI_pack r (a ++ encodeVarint (signless x)) b (acc ++ [x]) q hr
        have e : a ++ (encodeVarint (signless x) ++ q) ++ b = a ++ encodeVarint (signless x) ++ (q ++ b) := by simp
        rw [List.length_cons, unpackI, e, hd]
        simp only [signed_less (Int.not_lt.1 hx)]
        have e2 : a ++ encodeVarint (signless x) ++ (q ++ b) = a ++ encodeVarint (signless x) ++ q ++ b := by simp
        have e3 : (a.length : Int) + ((encodeVarint (signless x)).length : Int) = ((a ++ encodeVarint (signless x)).length : Int) := by simp
        rw [e2, e3, ih]
        simp
theorem unpackInts_pack {xs : List Int} {a b o : List UInt8} (hx : xs.length ≤ 1099511627775) (h : packI xs = some o) : unpackInts (a ++ packInts xs ++ b) a.length = some (xs, ((a ++ packInts xs).length : Int)) := by
  have hp : packInts xs = encodeVarint xs.length ++ o := by unfold packInts; rw [h]; rfl
  have hd := decodeVarint_enc (n := (xs.length : Int)) ⟨by omega, by omega⟩ a (o ++ b)
  have hi := unpackI_pack xs (a ++ encodeVarint xs.length) b [] o h
  rw [hp]
  unfold unpackInts
  have e : a ++ (encodeVarint (xs.length : Int) ++ o) ++ b = a ++ encodeVarint xs.length ++ (o ++ b) := by simp
  rw [e, hd]
  have e2 : a ++ encodeVarint (xs.length : Int) ++ (o ++ b) = a ++ encodeVarint xs.length ++ o ++ b := by simp
  have e3 : (a.length : Int) + ((encodeVarint (xs.length : Int)).length : Int) = ((a ++ encodeVarint (xs.length : Int)).length : Int) := by simp
  simp only [Int.toNat_natCast]
  rw [e2, e3, hi]
  simp
end Go.Proofs.Ythlpbojljpamlaa
