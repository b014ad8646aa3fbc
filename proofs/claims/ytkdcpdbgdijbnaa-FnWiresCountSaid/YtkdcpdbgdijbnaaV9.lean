/- What is proved: what is sent over a wire in FnWiresCount, in plain terms: one changed byte, what is counted.
   Conditions: none beyond those that each lemma names. -/
import Derived.Test.YtkdcpdbgdijbnaaT26
import Derived.Test.YtkdcpdbgdijbnaaT44
namespace Go.Proofs.Ytkdcpdbgdijbnaa
open Go.RowKit Ab
def helloD : List UInt8 := [104, 101, 108, 108, 111, 44, 32, 119, 111, 114, 108, 100]
/-- How many of the first bytes differ from the greeting's. -/
def dif (s : List UInt8) : Nat → Nat
  | 0 => 0
  | n + 1 => dif s n + (if s.getD n 0 = helloD.getD n 0 then 0 else 1)
structure GoodD (dm : Int) (s : List UInt8) : Prop where
  len : s.length = 12
  one : dif s 12 ≤ 1
  none : dm = 0 → dif s 12 = 0
  all : dm = 100 → dif s 12 = 1
theorem dif_same {s : List UInt8} {n : Nat} (h : ∀ k, k < n → s.getD k 0 = helloD.getD k 0) : dif s n = 0 := by
  induction n with
  | zero => rfl
  | succ n ih => simp only [dif, ih fun k hk => h k (by omega), h n (Nat.lt_succ_self n), if_true]
theorem dif_one {s : List UInt8} {n p : Nat} (hp : p < n) (h : ∀ k, k < n → k ≠ p → s.getD k 0 = helloD.getD k 0) (hn : s.getD p 0 ≠ helloD.getD p 0) : dif s n = 1 := by
  induction n with
  | zero => omega
  | succ n ih =>
    by_cases e : p = n
    · subst e
      simp only [dif, dif_same (n := p) (fun k hk => h k (by omega) (by omega)), if_neg hn]
    · simp only [dif, ih (by omega) fun k hk hne => h k (by omega) hne, h n (Nat.lt_succ_self n) (by omega), if_true]
theorem xor_ne : ∀ (a : Fin 256) (b : Fin 255), (UInt8.ofNat (IntKind.u8.wrap (BitVec.ofInt 8 ((a.val : Nat) : Int) ^^^ BitVec.ofInt 8 (IntKind.u8.wrap (((b.val : Nat) : Int) + 1))).toNat).toNat) ≠ UInt8.ofNat a.val := by
  intro a b
  have h1 : IntKind.u8.wrap (((b.val : Nat) : Int) + 1) = ((b.val + 1 : Nat) : Int) := by
    have := b.isLt
    simp [IntKind.wrap, IntKind.signed, IntKind.bits]
    omega
  rw [h1]
  intro h
  have ha := a.isLt
  have hb := b.isLt
  have h2 : BitVec.ofInt 8 ((a.val : Nat) : Int) = BitVec.ofNat 8 a.val := by simp
  have h3 : BitVec.ofInt 8 (((b.val + 1 : Nat)) : Int) = BitVec.ofNat 8 (b.val + 1) := by
    apply BitVec.eq_of_toNat_eq
    simp [BitVec.toNat_ofInt]
    omega
  rw [h2, h3] at h
  have h4 : ((BitVec.ofNat 8 a.val ^^^ BitVec.ofNat 8 (b.val + 1)).toNat : Nat) < 256 := (BitVec.ofNat 8 a.val ^^^ BitVec.ofNat 8 (b.val + 1)).isLt
  have h5 : (IntKind.u8.wrap ((BitVec.ofNat 8 a.val ^^^ BitVec.ofNat 8 (b.val + 1)).toNat : Nat)).toNat = (BitVec.ofNat 8 a.val ^^^ BitVec.ofNat 8 (b.val + 1)).toNat := by
    simp only [IntKind.wrap, IntKind.signed, IntKind.bits]
    simp only [Bool.false_eq_true, if_false, Bool.false_and]
    omega
  rw [h5] at h
  have h6 := congrArg UInt8.toNat h
  rw [UInt8.toNat_ofNat_of_lt' h4, UInt8.toNat_ofNat_of_lt' ha] at h6
  have h7 : BitVec.ofNat 8 a.val ^^^ BitVec.ofNat 8 (b.val + 1) = BitVec.ofNat 8 a.val := by
    apply BitVec.eq_of_toNat_eq
    rw [h6]
    simp
  have h8 : BitVec.ofNat 8 (b.val + 1) = 0#8 := by
    have := congrArg (fun z => BitVec.ofNat 8 a.val ^^^ z) h7
    simpa [← BitVec.xor_assoc] using this
  have h9 := congrArg BitVec.toNat h8
  simp at h9
  omega
theorem map_byteOf (s : List UInt8) : (bytesE s).map Ab.byteOf = s := by
  simp only [bytesE, List.map_map]
  conv => rhs; rw [← List.map_id s]
  refine List.map_congr_left fun x _ => ?_
  show UInt8.ofNat ((x.toNat : Int)).toNat = id x
  simp
/-- A spoilt text: as long, another byte at one place. -/
theorem spoil_one {dice : Int} {b : List UInt8} (hb : 0 < b.length) : ∃ p, p < b.length ∧ (spoil dice b).length = b.length ∧ (∀ k, k ≠ p → (spoil dice b).getD k 0 = b.getD k 0) ∧ (spoil dice b).getD p 0 ≠ b.getD p 0 := by
  have h1 := randomBelow_in dice b.length
  have h2 := randomBelow_in (randomBelow dice b.length).1 255
  refine ⟨(randomBelow dice b.length).2.toNat, by omega, by simp [spoil, bytesE], fun k hk => ?_, ?_⟩
  · unfold spoil
    rw [List.map_set, map_byteOf]
    simp [List.getD_eq_getElem?_getD, List.getElem?_set, Ne.symm hk]
  · have hp : (randomBelow dice b.length).2.toNat < b.length := by omega
    unfold spoil
    rw [List.map_set, map_byteOf]
    generalize (randomBelow dice b.length).2.toNat = p at hp
    have e1 : (b.set p (Ab.byteOf [T.int .u8 (IntKind.u8.wrap (BitVec.ofInt IntKind.u8.bits ((b.getD p default).toNat : Nat) ^^^ BitVec.ofInt IntKind.u8.bits (IntKind.u8.wrap ((randomBelow (randomBelow dice b.length).1 255).2 + 1))).toNat)])).getD p 0 = Ab.byteOf [T.int .u8 (IntKind.u8.wrap (BitVec.ofInt IntKind.u8.bits ((b.getD p default).toNat : Nat) ^^^ BitVec.ofInt IntKind.u8.bits (IntKind.u8.wrap ((randomBelow (randomBelow dice b.length).1 255).2 + 1))).toNat)] := by
      simp [List.getD_eq_getElem?_getD, hp]
    rw [e1]
    have h3 := xor_ne ⟨(b.getD p default).toNat, UInt8.toNat_lt _⟩ ⟨(randomBelow (randomBelow dice b.length).1 255).2.toNat, by omega⟩
    have e2 : (((randomBelow (randomBelow dice b.length).1 255).2.toNat : Nat) : Int) = (randomBelow (randomBelow dice b.length).1 255).2 := by omega
    simp only [e2] at h3
    have e3 : UInt8.ofNat (b.getD p default).toNat = b.getD p 0 := by simp; rfl
    rw [e3] at h3
    exact h3
end Go.Proofs.Ytkdcpdbgdijbnaa
