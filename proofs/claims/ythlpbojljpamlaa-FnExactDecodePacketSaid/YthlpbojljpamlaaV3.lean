/- What is proved: runs of inputs, texts and sealed texts as bytes: how they are written and read, in plain terms.
   Conditions: none. -/
import Derived.Test.YthlpbojljpamlaaV2
namespace Go.Proofs.Ythlpbojljpamlaa
/-! ### Runs -/
def runLen (x : Int) : List Int → Nat
  | [] => 0
  | y :: r => if y = x then runLen x r + 1 else 0
theorem runLen_le (x : Int) : ∀ xs : List Int, runLen x xs ≤ xs.length
  | [] => Nat.le_refl _
  | y :: r => by have := runLen_le x r
                 unfold runLen
                 split <;> simp <;> omega
theorem runLen_take (x : Int) : ∀ xs : List Int, xs.take (runLen x xs) = List.replicate (runLen x xs) x
  | [] => rfl
  | y :: r => by
    unfold runLen
    split
    · rename_i h
      rw [List.take_succ_cons, runLen_take x r, List.replicate_succ, h]
    · rfl
def packT : Nat → List Int → List UInt8
  | 0, _ => []
  | _ + 1, [] => []
  | f + 1, x :: r => encodeVarint (x + 16 * (runLen x (x :: r) : Int)) ++ packT f ((x :: r).drop (runLen x (x :: r)))
def inpOk (xs : List Int) : Bool := xs.all fun n => decide (0 ≤ n) && decide (n ≤ 15)
def packTrack (xs : List Int) : List UInt8 := if xs.length ≤ 400 ∧ inpOk xs = true then packT xs.length xs else []
theorem packT_more : ∀ (f g : Nat) (xs : List Int), xs.length ≤ f → xs.length ≤ g → packT f xs = packT g xs
  | 0, 0, _, _, _ => rfl
  | 0, _ + 1, [], _, _ => rfl
  | _ + 1, 0, [], _, _ => rfl
  | _ + 1, _ + 1, [], _, _ => rfl
  | 0, _, _ :: _, h, _ => by simp at h
  | _ + 1, 0, _ :: _, _, h => by simp at h
  | f + 1, g + 1, x :: r, h1, h2 => by
    unfold packT
    have h3 : 1 ≤ runLen x (x :: r) := by simp [runLen]
    rw [packT_more f g _ (by simp at *; omega) (by simp at *; omega)]
theorem packT_len : ∀ (f : Nat) (xs : List Int), (packT f xs).length ≤ 6 * f
  | 0, _ => by simp [packT]
  | _ + 1, [] => by simp [packT]
  | f + 1, x :: r => by
    unfold packT
    have := packT_len f ((x :: r).drop (runLen x (x :: r)))
    have := encodeVarint_len (x + 16 * (runLen x (x :: r) : Int))
    rw [List.length_append]
    omega
theorem packTrack_len (xs : List Int) : (packTrack xs).length ≤ 2400 := by
  unfold packTrack
  split
  · rename_i h
    have := packT_len xs.length xs
    omega
  · simp
def unpT (s : List UInt8) : Nat → Int → List Int → Option (List Int)
  | 0, _, _ => none
  | f + 1, p, acc => if p < s.length then (match decodeVarint s p with
    | (n, m, true) => if 400 - (acc.length : Int) < n / 16 then none else unpT s f (p + m) (acc ++ List.replicate (n / 16).toNat (n % 16))
    | _ => none) else some acc
def unpackTrack (s : List UInt8) : Option (List Int) := match unpT s (s.length + 1) 0 [] with
  | some l => if packTrack l = s then some l else none
  | none => none
theorem unpackTrack_sound {s : List UInt8} {l : List Int} (h : unpackTrack s = some l) : packTrack l = s := by
  unfold unpackTrack at h
  split at h
  · split at h
    · rename_i h1; cases h; exact h1
    · cases h
  · cases h
theorem unpT_len (s : List UInt8) : ∀ (f : Nat) (p : Int) (acc l : List Int), unpT s f p acc = some l → acc.length ≤ 400 → l.length ≤ 400
  | 0, _, _, _, h, _ => by cases h
  | f + 1, p, acc, l, h, ha => by
    unfold unpT at h
    split at h
    · split at h
      · rename_i n m hd
        split at h
        · cases h
        · obtain ⟨_, g2, _, _⟩ := decodeVarint_yes hd
          exact unpT_len s f _ _ l h (by simp; omega)
      · cases h
    · cases h; exact ha
theorem unpackTrack_len {s : List UInt8} {l : List Int} (h : unpackTrack s = some l) : l.length ≤ 400 := by
  unfold unpackTrack at h
  split at h
  · rename_i l' hu
    split at h
    · cases h; exact unpT_len _ _ _ _ _ hu (by simp)
    · cases h
  · cases h
theorem unpT_pack (s : List UInt8) : ∀ (f g : Nat) (xs acc : List Int) (a : List UInt8), s = a ++ packT f xs → xs.length ≤ f → (packT f xs).length < g → inpOk xs = true → acc.length + xs.length ≤ 400 → unpT s g a.length acc = some (acc ++ xs)
  | 0, g + 1, xs, acc, a, hs, hf, _, _, _ => by
    have : xs = [] := List.eq_nil_of_length_eq_zero (by omega)
    subst this
    rw [unpT, if_neg (by rw [hs]; simp [packT])]
    simp
  | _ + 1, g + 1, [], acc, a, hs, _, _, _, _ => by
    rw [unpT, if_neg (by rw [hs]; simp [packT])]
    simp
  | f + 1, g + 1, x :: r, acc, a, hs, hf, hg, hi, hl => by
    have h1 : 1 ≤ runLen x (x :: r) := by simp [runLen]
    have h2 := runLen_le x (x :: r)
    have hx : 0 ≤ x ∧ x ≤ 15 := by
      have := List.all_eq_true.1 hi x (by simp)
      simpa using this
    have hr : inpOk ((x :: r).drop (runLen x (x :: r))) = true := List.all_eq_true.2 fun y hy => List.all_eq_true.1 hi y (List.mem_of_mem_drop hy)
    have ht := runLen_take x (x :: r)
    have htd := List.take_append_drop (runLen x (x :: r)) (x :: r)
    unfold packT at hs
    generalize hn : runLen x (x :: r) = n at *
    simp only [List.length_cons] at hf h2 hl
    have hv : 0 ≤ x + 16 * (n : Int) ∧ x + 16 * (n : Int) ≤ 1099511627775 := by omega
    unfold packT at hg
    rw [hn, List.length_append] at hg
    have hd := decodeVarint_enc hv a (packT f ((x :: r).drop n))
    have hp := encodeVarint_pos hv
    rw [← List.append_assoc] at hs
    rw [← hs] at hd
    have hlt : (a.length : Int) < s.length := by rw [hs]; simp; omega
    rw [unpT, if_pos hlt, hd]
    have e1 : (x + 16 * (n : Int)) / 16 = n := by omega
    have e2 : (x + 16 * (n : Int)) % 16 = x := by omega
    simp only [e1, e2, Int.toNat_natCast]
    rw [if_neg (by omega)]
    have ih := unpT_pack s f g ((x :: r).drop n) (acc ++ List.replicate n x) (a ++ encodeVarint (x + 16 * (n : Int))) hs (by simp; omega) (by omega) hr (by simp; omega)
    have e3 : (a.length : Int) + ((encodeVarint (x + 16 * (n : Int))).length : Int) = ((a ++ encodeVarint (x + 16 * (n : Int))).length : Int) := by simp
    rw [e3, ih, List.append_assoc, ← ht, htd]
theorem unpackTrack_pack {xs : List Int} (h : xs.length ≤ 400 ∧ inpOk xs = true) : unpackTrack (packTrack xs) = some xs := by
  have hp : packTrack xs = packT xs.length xs := if_pos h
  have hu := unpT_pack (packTrack xs) xs.length ((packTrack xs).length + 1) xs [] [] (by rw [hp]; rfl) (Nat.le_refl _) (by rw [hp]; omega) h.2 (by simpa using h.1)
  unfold unpackTrack
  rw [show ((0 : Int)) = (([] : List UInt8).length : Int) from rfl, hu]
  simp
/-! ### Texts -/
def packText (s : List UInt8) : List UInt8 := encodeVarint s.length ++ s
def unpackText (s : List UInt8) (p : Int) : Option (List UInt8 × Int) := match decodeVarint s p with
  | (n, m, true) => if (s.length : Int) - p - m < n then none else some ((s.drop (p + m).toNat).take n.toNat, m + n)
  | _ => none
theorem unpackText_sound {s t : List UInt8} {p q : Int} (h : unpackText s p = some (t, q)) : 0 ≤ p ∧ 0 < q ∧ p + q ≤ s.length ∧ packText t = (s.drop p.toNat).take q.toNat := by
  unfold unpackText at h
  split at h
  · rename_i n m hd
    obtain ⟨g1, g2, g3, g4, g5, g6, g7⟩ := decodeVarint_yes hd
    split at h
    · cases h
    · cases h
      refine ⟨g1, by omega, by omega, ?_⟩
      have hl : ((s.drop (p + m).toNat).take n.toNat).length = n.toNat := by rw [List.length_take, List.length_drop]; omega
      unfold packText
      rw [hl]
      have a0 : ((n.toNat : Nat) : Int) = n := by omega
      have a1 : (p + m).toNat = p.toNat + m.toNat := by omega
      have a2 : (m + n).toNat = m.toNat + n.toNat := by omega
      rw [a0, g7, a1, a2, ← List.drop_drop, List.take_add]
  · cases h
theorem unpackText_pack {a b t : List UInt8} (h : t.length ≤ 1099511627775) : unpackText (a ++ packText t ++ b) a.length = some (t, ((packText t).length : Int)) := by
  have hd := decodeVarint_enc (n := (t.length : Int)) ⟨by omega, by omega⟩ a (t ++ b)
  have e : a ++ packText t ++ b = a ++ encodeVarint (t.length : Int) ++ (t ++ b) := by simp [packText]
  unfold unpackText
  rw [e, hd]
  simp only []
  rw [if_neg (by simp; omega)]
  have e2 : ((a.length : Int) + ((encodeVarint (t.length : Int)).length : Int)).toNat = (a ++ encodeVarint (t.length : Int)).length := by simp; omega
  rw [e2, List.drop_left, Int.toNat_natCast, List.take_left]
  simp [packText]
/-! ### Sealed texts -/
def csGo : List UInt8 → Int → Int → Int → Int × Int
  | [], _, a, b => (a, b)
  | c :: r, k, a, b => csGo r (k + 1) ((a + c.toNat) % 65521) ((b + c.toNat * ((k + 1) % 65521)) % 65521)
def checksum (s : List UInt8) : Int := (csGo s 0 0 0).1 + 65536 * (csGo s 0 0 0).2
theorem csGo_in : ∀ (s : List UInt8) (k a b : Int), 0 ≤ a ∧ a < 65521 → 0 ≤ b ∧ b < 65521 → (0 ≤ (csGo s k a b).1 ∧ (csGo s k a b).1 < 65521) ∧ (0 ≤ (csGo s k a b).2 ∧ (csGo s k a b).2 < 65521)
  | [], _, _, _, ha, hb => ⟨ha, hb⟩
  | c :: r, k, a, b, ha, hb => csGo_in r _ _ _ ⟨Int.emod_nonneg _ (by decide), Int.emod_lt_of_pos _ (by decide)⟩ ⟨Int.emod_nonneg _ (by decide), Int.emod_lt_of_pos _ (by decide)⟩
theorem checksum_in (s : List UInt8) : 0 ≤ checksum s ∧ checksum s ≤ 4294967295 ∧ checksum s % 65536 < 65521 ∧ checksum s / 65536 < 65521 := by
  have h := csGo_in s 0 0 0 (by decide) (by decide)
  unfold checksum
  omega
def headOf (x : Int) : List UInt8 := [UInt8.ofNat (x % 256).toNat, UInt8.ofNat (x / 256 % 256).toNat, UInt8.ofNat (x / 65536 % 256).toNat, UInt8.ofNat (x / 16777216 % 256).toNat]
def sealText (s : List UInt8) : List UInt8 := headOf (checksum s) ++ s
def openText (s : List UInt8) : Option (List UInt8) := if s.length < 4 then none else if sealText (s.drop 4) = s then some (s.drop 4) else none
theorem openText_sound {s b : List UInt8} (h : openText s = some b) : sealText b = s := by
  unfold openText at h
  split at h
  · cases h
  · split at h
    · rename_i h1; cases h; exact h1
    · cases h
theorem sealText_len (s : List UInt8) : (sealText s).length = s.length + 4 := by simp [sealText, headOf]
theorem openText_seal (s : List UInt8) : openText (sealText s) = some s := by
  have h : (sealText s).drop 4 = s := by simp [sealText, headOf]
  unfold openText
  rw [if_neg (by rw [sealText_len]; omega), h, if_pos rfl]
end Go.Proofs.Ythlpbojljpamlaa
