/- What is proved: packets as bytes: how they are written and read, and that one changed byte is seen, in plain terms.
   Conditions: none. -/
import Derived.Test.YthlpbojljpamlaaV3
namespace Go.Proofs.Ythlpbojljpamlaa
def pktBody (head acks ins : List Int) : List UInt8 := packInts head ++ packInts acks ++ packText (packTrack ins)
def decParts (t : List UInt8) : Option (List Int × List Int × List Int) := match openText t with
  | none => none
  | some s => match unpackInts s 0 with
    | none => none
    | some (head, a) => if head.length ≠ 7 then none else match unpackInts s a with
      | none => none
      | some (acks, b) => match unpackText s b with
        | none => none
        | some (text, c) => if b + c ≠ s.length then none else match unpackTrack text with
          | none => none
          | some ins => some (head, acks, ins)
theorem decParts_sound {t : List UInt8} {head acks ins : List Int} (h : decParts t = some (head, acks, ins)) : head.length = 7 ∧ ins.length ≤ 400 ∧ acks.length ≤ t.length ∧ sealText (pktBody head acks ins) = t := by
  unfold decParts at h
  split at h
  · cases h
  · rename_i s hs
    split at h
    · cases h
    · rename_i hd a hu1
      split at h
      · cases h
      · rename_i h7
        split at h
        · cases h
        · rename_i ak b hu2
          split at h
          · cases h
          · rename_i text c hu3
            split at h
            · cases h
            · rename_i hlen
              split at h
              · cases h
              · rename_i is hu4
                cases h
                have hsl := openText_sound hs
                obtain ⟨a1, a2, a3, a4, a5⟩ := unpackInts_sound hu1
                obtain ⟨b1, b2, b3, b4, b5⟩ := unpackInts_sound hu2
                obtain ⟨c1, c2, c3, c4⟩ := unpackText_sound hu3
                have d1 := unpackTrack_sound hu4
                have hst := sealText_len s
                rw [hsl] at hst
                refine ⟨by omega, unpackTrack_len hu4, by omega, ?_⟩
                rw [← hsl]
                congr 1
                unfold pktBody
                rw [d1, a5, b5, c4]
                have e1 : (a - 0).toNat = a.toNat := by omega
                have e2 : (b - a).toNat = b.toNat - a.toNat := by omega
                rw [e1, e2]
                simp only [Int.toNat_zero, List.drop_zero]
                have e3 : List.take a.toNat s ++ List.take (b.toNat - a.toNat) (s.drop a.toNat) = s.take b.toNat := by
                  rw [← List.take_add]
                  congr 1
                  omega
                rw [e3, List.take_of_length_le (l := s.drop b.toNat) (by rw [List.length_drop]; omega), List.take_append_drop]
theorem decParts_pack {head acks ins : List Int} {o p : List UInt8} (h7 : head.length = 7) (ha : acks.length ≤ 1099511627775) (h1 : packI head = some o) (h2 : packI acks = some p) (hi : ins.length ≤ 400 ∧ inpOk ins = true) :
    decParts (sealText (pktBody head acks ins)) = some (head, acks, ins) := by
  have hl := packTrack_len ins
  have e1 := unpackInts_pack (xs := head) (a := []) (b := packInts acks ++ packText (packTrack ins)) (by omega) h1
  have e2 := unpackInts_pack (xs := acks) (a := packInts head) (b := packText (packTrack ins)) ha h2
  have e3 := unpackText_pack (a := packInts head ++ packInts acks) (b := []) (t := packTrack ins) (by omega)
  have b1 : [] ++ packInts head ++ (packInts acks ++ packText (packTrack ins)) = pktBody head acks ins := by simp [pktBody]
  have b2 : packInts head ++ packInts acks ++ packText (packTrack ins) = pktBody head acks ins := rfl
  have b3 : packInts head ++ packInts acks ++ packText (packTrack ins) ++ [] = pktBody head acks ins := by simp [pktBody]
  rw [b1] at e1
  rw [b2] at e2
  rw [b3] at e3
  have e0 : (([] : List UInt8).length : Int) = 0 := rfl
  rw [e0, List.nil_append] at e1
  unfold decParts
  rw [openText_seal]
  simp only [e1]
  rw [if_neg (by omega)]
  simp only [e2, e3]
  rw [if_neg (by simp [pktBody]; omega), unpackTrack_pack hi]
/-! ### One changed byte -/
theorem csGo_fst : ∀ (s : List UInt8) (k a b : Int), 0 ≤ a ∧ a < 65521 → (csGo s k a b).1 = (a + (s.map fun c => (c.toNat : Int)).sum) % 65521
  | [], _, a, b, h => by simp [csGo]; omega
  | c :: r, k, a, b, h => by
    rw [csGo, csGo_fst r _ _ _ ⟨Int.emod_nonneg _ (by decide), Int.emod_lt_of_pos _ (by decide)⟩, List.map_cons, List.sum_cons]
    omega
theorem sum_set : ∀ (s : List UInt8) (k : Nat) (x : UInt8) (_ : k < s.length), ((s.set k x).map fun c => (c.toNat : Int)).sum = (s.map fun c => (c.toNat : Int)).sum - ((s.getD k 0).toNat : Int) + (x.toNat : Int)
  | [], k, x, h => absurd h (by simp)
  | c :: r, 0, x, h => by simp; omega
  | c :: r, k + 1, x, h => by
    have ih := sum_set r k x (by simpa using h)
    simp only [List.set_cons_succ, List.map_cons, List.sum_cons, ih, List.getD_cons_succ]
    omega
theorem checksum_set {s : List UInt8} {k : Nat} {x : UInt8} (hk : k < s.length) (hx : x ≠ s.getD k 0) : checksum (s.set k x) % 65536 ≠ checksum s % 65536 := by
  have h1 := csGo_fst s 0 0 0 (by decide)
  have h2 := csGo_fst (s.set k x) 0 0 0 (by decide)
  have h3 := sum_set s k x hk
  have hne : x.toNat ≠ (s.getD k 0).toNat := fun e => hx (UInt8.toNat.inj e)
  have b1 := x.toNat_lt
  have b2 := (s.getD k 0).toNat_lt
  unfold checksum
  rw [h1, h2, h3]
  omega
theorem headOf_inj {x y : Int} (hx : 0 ≤ x) (hy : 0 ≤ y) (h : headOf x = headOf y) : x % 65536 = y % 65536 := by
  unfold headOf at h
  simp only [List.cons.injEq, and_true] at h
  obtain ⟨h1, h2, _, _⟩ := h
  have g1 := congrArg UInt8.toNat h1
  have g2 := congrArg UInt8.toNat h2
  simp at g1 g2
  omega
theorem openText_set {s : List UInt8} {k : Nat} {x : UInt8} (hk : k < (sealText s).length) (hx : x ≠ (sealText s).getD k 0) : openText ((sealText s).set k x) = none := by
  have hd : (sealText s).drop 4 = s := by simp [sealText, headOf]
  have hl := sealText_len s
  have ht : (sealText s).take 4 = headOf (checksum s) := by simp [sealText, headOf]
  unfold openText
  rw [List.length_set, if_neg (by omega), if_neg]
  intro h
  by_cases h4 : k < 4
  · have e1 : ((sealText s).set k x).drop 4 = s := by rw [List.drop_set, if_pos (by omega), hd]
    rw [e1] at h
    have h5 := congrArg (fun l => l.getD k 0) h
    simp [List.getD_eq_getElem?_getD, hk] at h5
    simp [List.getD_eq_getElem?_getD, hk] at hx
    exact hx h5.symm
  · have e1 : ((sealText s).set k x).drop 4 = s.set (k - 4) x := by rw [List.drop_set, if_neg (by omega), hd]
    rw [e1] at h
    have h5 := congrArg (List.take 4) h
    have e2 : ((sealText s).set k x).take 4 = headOf (checksum s) := by rw [List.take_set_of_le (by omega), ht]
    rw [e2] at h5
    have e3 : (sealText (s.set (k - 4) x)).take 4 = headOf (checksum (s.set (k - 4) x)) := by simp [sealText, headOf]
    rw [e3] at h5
    refine checksum_set (s := s) (k := k - 4) (x := x) (by omega) ?_ (headOf_inj (checksum_in _).1 (checksum_in _).1 h5)
    have e4 : (sealText s).getD k 0 = s.getD (k - 4) 0 := by
      obtain ⟨j, rfl⟩ : ∃ j, k = j + 4 := ⟨k - 4, by omega⟩
      simp [sealText, headOf, List.getD_eq_getElem?_getD]
    rwa [e4] at hx
end Go.Proofs.Ythlpbojljpamlaa
