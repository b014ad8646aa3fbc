/- What is proved: contracts on runs of inputs read from bytes, program and reference alike.
   Conditions: none. -/
import Derived.WalkArith
import Derived.Test.YtmkpgcahmbancaaT12
namespace Go.Proofs.Ytmkpgcahmbancaa
set_option linter.unusedSimpArgs false
set_option linter.unusedVariables false
/-! ### Written -/
def encN (n : Nat) : List UInt8 := if n < 128 then [UInt8.ofNat n] else UInt8.ofNat (n % 128 + 128) :: encN (n / 128)
termination_by n
decreasing_by omega
theorem encN_lt {n : Nat} (h : n < 128) : encN n = [UInt8.ofNat n] := by rw [encN, if_pos h]
theorem encN_ge {n : Nat} (h : 128 ≤ n) : encN n = UInt8.ofNat (n % 128 + 128) :: encN (n / 128) := by rw [encN, if_neg (by omega)]
def encodeVarint (n : Int) : List UInt8 := if 0 ≤ n ∧ n ≤ 1099511627775 then encN n.toNat else []
/-- Enough bytes have no room for more. -/
theorem encN_len : ∀ (m n : Nat), n < 128 ^ (m + 1) → (encN n).length ≤ m + 1
  | 0, n, h => by rw [encN_lt (by simpa using h)]; simp
  | m + 1, n, h => by
    by_cases h1 : n < 128
    · rw [encN_lt h1]; simp
    · rw [encN_ge (by omega), List.length_cons]
      have := encN_len m (n / 128) (by rw [Nat.div_lt_iff_lt_mul (by decide)]; rw [Nat.pow_succ] at h; exact h)
      omega
theorem encN_pos (n : Nat) : 0 < (encN n).length := by
  by_cases h : n < 128
  · rw [encN_lt h]; simp
  · rw [encN_ge (by omega)]; simp
/-! ### Read -/
def valB : List UInt8 → Nat
  | [] => 0
  | b :: r => b.toNat % 128 + 128 * valB r
/-- Reading on behind k bytes that came to n. -/
def decI : Nat → Nat → Nat → List UInt8 → Option (Nat × Nat)
  | 0, _, _, _ => none
  | _ + 1, _, _, [] => none
  | f + 1, k, n, c :: r => if 128 ≤ c.toNat then decI f (k + 1) (n + c.toNat % 128 * 128 ^ k) r else
      if (c.toNat = 0 ∧ 0 < k) ∨ 1099511627775 < n + c.toNat % 128 * 128 ^ k then none else some (n + c.toNat % 128 * 128 ^ k, k + 1)
def decodeVarint (s : List UInt8) (at_ : Int) : Int × Int × Bool :=
  if at_ < 0 then (0, 0, false) else match decI 6 0 0 (s.drop at_.toNat) with | some (n, m) => (n, m, true) | none => (0, 0, false)
/-! ### One number -/
theorem encodeVarint_len (n : Int) : (encodeVarint n).length ≤ 6 := by
  unfold encodeVarint
  split
  · exact encN_len 5 n.toNat (by have : (128 : Nat) ^ 6 = 4398046511104 := (by decide); omega)
  · simp
/-! ### Numbers with a sign -/
def signless (n : Int) : Int := if n < -549755813888 ∨ 549755813887 < n then -1 else if 0 ≤ n then 2 * n else -2 * n - 1
def signed (n : Int) : Int := if n < 0 ∨ 1099511627775 < n then 0 else if n % 2 = 0 then n / 2 else -((n + 1) / 2)
/-! ### Lists of numbers -/
def packI : List Int → Option (List UInt8)
  | [] => some []
  | x :: r => if signless x < 0 then none else (packI r).map (encodeVarint (signless x) ++ ·)
def packInts (xs : List Int) : List UInt8 := ((packI xs).map (encodeVarint xs.length ++ ·)).getD []
def unpackI (s : List UInt8) : Nat → List Int → Int → Option (List Int × Int)
  | 0, acc, p => some (acc, p)
  | n + 1, acc, p => match decodeVarint s p with
    | (v, m, true) => unpackI s n (acc ++ [signed v]) (p + m)
    | _ => none
/-- The list whose bytes begin at p, and where they end. -/
def unpackInts (s : List UInt8) (p : Int) : Option (List Int × Int) := match decodeVarint s p with
  | (n, m, true) => unpackI s n.toNat [] (p + m)
  | _ => none
/-! ### Runs -/
def runLen (x : Int) : List Int → Nat
  | [] => 0
  | y :: r => if y = x then runLen x r + 1 else 0
def packT : Nat → List Int → List UInt8
  | 0, _ => []
  | _ + 1, [] => []
  | f + 1, x :: r => encodeVarint (x + 16 * (runLen x (x :: r) : Int)) ++ packT f ((x :: r).drop (runLen x (x :: r)))
def inpOk (xs : List Int) : Bool := xs.all fun n => decide (0 ≤ n) && decide (n ≤ 15)
def packTrack (xs : List Int) : List UInt8 := if xs.length ≤ 400 ∧ inpOk xs = true then packT xs.length xs else []
def unpT (s : List UInt8) : Nat → Int → List Int → Option (List Int)
  | 0, _, _ => none
  | f + 1, p, acc => if p < s.length then (match decodeVarint s p with
    | (n, m, true) => if 400 - (acc.length : Int) < n / 16 then none else unpT s f (p + m) (acc ++ List.replicate (n / 16).toNat (n % 16))
    | _ => none) else some acc
def unpackTrack (s : List UInt8) : Option (List Int) := match unpT s (s.length + 1) 0 [] with
  | some l => if packTrack l = s then some l else none
  | none => none
/-! ### Texts -/
def packText (s : List UInt8) : List UInt8 := encodeVarint s.length ++ s
def unpackText (s : List UInt8) (p : Int) : Option (List UInt8 × Int) := match decodeVarint s p with
  | (n, m, true) => if (s.length : Int) - p - m < n then none else some ((s.drop (p + m).toNat).take n.toNat, m + n)
  | _ => none
/-! ### Sealed texts -/
def csGo : List UInt8 → Int → Int → Int → Int × Int
  | [], _, a, b => (a, b)
  | c :: r, k, a, b => csGo r (k + 1) ((a + c.toNat) % 65521) ((b + c.toNat * ((k + 1) % 65521)) % 65521)
def checksum (s : List UInt8) : Int := (csGo s 0 0 0).1 + 65536 * (csGo s 0 0 0).2
def headOf (x : Int) : List UInt8 := [UInt8.ofNat (x % 256).toNat, UInt8.ofNat (x / 256 % 256).toNat, UInt8.ofNat (x / 65536 % 256).toNat, UInt8.ofNat (x / 16777216 % 256).toNat]
def sealText (s : List UInt8) : List UInt8 := headOf (checksum s) ++ s
def openText (s : List UInt8) : Option (List UInt8) := if s.length < 4 then none else if sealText (s.drop 4) = s then some (s.drop 4) else none
def pktBody (head acks ins : List Int) : List UInt8 := packInts head ++ packInts acks ++ packText (packTrack ins)
def decParts (t : List UInt8) : Option (List Int × List Int × List Int) := match openText t with
  | none => none
  | some s => match unpackInts s 0 with
    | none => none
    | some (head, a) => if head.length ≠ 7 then none else match unpackInts s a with
      | none => none
      | some (acks, b) => match unpackText s b with
        | none => none
        | some (text, c) => if b + c ≠ s.length then none else match unpackTrack text with
          | none => none
          | some ins => some (head, acks, ins)
/-! ### One changed byte -/
end Go.Proofs.Ytmkpgcahmbancaa
namespace Go.Proofs.Ytmkpgcahmbancaa
set_option linter.unusedSimpArgs false
set_option linter.unusedVariables false
open Go.RowKit Ab
/-! ### Bytes and bits -/
theorem wrap_u8 (x : Int) : IntKind.u8.wrap x = x % 256 := by
  simp [IntKind.wrap, IntKind.bits, IntKind.signed]
theorem wrap_in {x : Int} (h : -9223372036854775808 ≤ x ∧ x ≤ 9223372036854775807) : IntKind.i64.wrap x = x := wrap_i64 h
theorem byteOf_u8 (x : Int) : Ab.byteOf [T.int .u8 (IntKind.u8.wrap x)] = UInt8.ofNat (x % 256).toNat := by rw [wrap_u8]; rfl
theorem byte_more {n : Int} (h : 0 ≤ n) : Ab.byteOf [T.int .u8 (IntKind.u8.wrap (n.tmod 128 + 128))] = UInt8.ofNat (n.toNat % 128 + 128) := by
  rw [byteOf_u8, Int.tmod_eq_emod_of_nonneg h]
  congr 1
  omega
theorem byte_last {n : Int} (h : 0 ≤ n ∧ n < 128) : Ab.byteOf [T.int .u8 (IntKind.u8.wrap n)] = UInt8.ofNat n.toNat := by
  rw [byteOf_u8]
  congr 1
  omega
theorem i64_or_nat (a b : Nat) (ha : a < 9223372036854775808) (hb : b < 9223372036854775808) : bits .or .i64 (a : Int) (b : Int) = ((a ||| b : Nat) : Int) := by
  have hx : a ||| b < 2 ^ 63 := Nat.or_lt_two_pow (by omega) (by omega)
  show IntKind.i64.wrap ((BitVec.ofInt 64 (a : Int) ||| BitVec.ofInt 64 (b : Int)).toNat : Int) = _
  rw [BitVec.toNat_or, ofInt_i64 a ha, ofInt_i64 b hb, IntKind.wrap_i64]
  omega
theorem and_127 {x : Int} (h0 : 0 ≤ x) (h1 : x ≤ 4398046511104) : bits .and .i64 x 127 = x % 128 := by
  obtain ⟨n, rfl⟩ := Int.eq_ofNat_of_zero_le h0
  have := i64_and_nat n 127 (by omega) (by omega)
  rw [show ((127 : Nat) : Int) = 127 from rfl] at this
  rw [this, show (127 : Nat) = 2 ^ 7 - 1 from rfl, Nat.and_two_pow_sub_one_eq_mod]
  omega
theorem or_shift (a b k : Nat) (h : a < 2 ^ k) : a ||| b * 2 ^ k = a + b * 2 ^ k := by
  have h1 := Nat.shiftLeft_add_eq_or_of_lt h b
  rw [Nat.shiftLeft_eq] at h1
  rw [Nat.or_comm, ← h1, Nat.add_comm]
theorem or_128 {x : Int} (h0 : 0 ≤ x) (h1 : x < 128) : bits .or .i64 x 128 = x + 128 := by
  obtain ⟨n, rfl⟩ := Int.eq_ofNat_of_zero_le h0
  have := i64_or_nat n 128 (by omega) (by omega)
  rw [show ((128 : Nat) : Int) = 128 from rfl] at this
  have h2 := or_shift n 1 7 (by omega)
  rw [this]
  simp only [Nat.reducePow, Nat.one_mul] at h2
  rw [h2]
  omega
theorem byte_more_s {n : Int} (h : 0 ≤ n) (h1 : n ≤ 1099511627775) : Ab.byteOf [T.int .u8 (IntKind.u8.wrap (bits .or .i64 (bits .and .i64 n 127) 128))] = UInt8.ofNat (n.toNat % 128 + 128) := by
  rw [byteOf_u8, and_127 h (by omega), or_128 (by omega) (by omega)]
  congr 1
  omega
theorem shr_7 (n : Int) : n.fdiv (2 ^ (min (Int.toNat 7) IntKind.i64.bits)) = n / 128 := by
  show n.fdiv 128 = n / 128
  exact Int.fdiv_eq_ediv_of_nonneg n (by decide)
theorem encN_step {n : Int} (h : 128 ≤ n) : encN n.toNat = UInt8.ofNat (n.toNat % 128 + 128) :: encN (n / 128).toNat := by
  rw [encN_ge (by omega)]
  congr 2
  omega
/-! ### Written -/
set_option maxRecDepth 20000 in
set_option maxHeartbeats 4000000 in
theorem a_i_EncodeVarint (n : Int) : AC Try.prog 195 [.t (.int .i64 n)] (.t (.str (encodeVarint n))) := by
  by_cases h : 0 ≤ n ∧ n ≤ 1099511627775
  · have hl : (encN n.toNat).length ≤ 6 := by have := encodeVarint_len n; rwa [encodeVarint, if_pos h] at this
    rw [encodeVarint, if_pos h]
    obtain ⟨h0, h1⟩ := h
    refine AC.go Try.func195 Try.ntmps195 fun B W hr => ?_
    repeat' (first | refine pa ?_ | (refine pb ?_ ?_ <;> intro hg) | refine po ?_ | fail)
    refine aW.nilrow (s := 3) (i := 18) true 5 rfl rfl ?_
    refine aW.loopF rfl (fun q : Int × Nat × List (List T) => [(3, .hnd 18 q.2.1), (0, .t (.int .i64 q.1))]) [] (fun q : Int × Nat × List (List T) => [(18, q.2.1, .row true true 5 q.2.2)]) [] (fun q : Int × Nat × List (List T) => 0 ≤ q.1 ∧ q.1 ≤ 1099511627775 ∧ (∀ x ∈ q.2.2, Ab.isByte x = true) ∧ q.2.2.map Ab.byteOf ++ encN q.1.toNat = encN n.toNat) (fun q : Int × Nat × List (List T) => q.1.toNat) (n, 1, []) ⟨h0, h1, isB_nil, rfl⟩ (by (exact plei)) ?_
    rintro ⟨v, ep, els⟩ hI
    obtain ⟨hv0, hv1, hb, he⟩ : 0 ≤ v ∧ v ≤ 1099511627775 ∧ (∀ x ∈ els, Ab.isByte x = true) ∧ els.map Ab.byteOf ++ encN v.toNat = encN n.toNat := hI
    have hle := congrArg List.length he
    rw [List.length_append, List.length_map] at hle
    have hp := encN_pos v.toNat
    dsimp only [List.cons_append, List.nil_append]
    have ht : v.tmod 128 = v % 128 := Int.tmod_eq_emod_of_nonneg hv0
    by_cases hv : 128 ≤ v
    · repeat' (first | refine pa ?_ | (refine pb ?_ ?_ <;> intro hg) | refine po ?_ | fail)
      refine ⟨(v / 128, _, _), ⟨?_, ?_, isB_app hb (isB_one rfl), ?_⟩, ?_, by (exact ple)⟩
      · show 0 ≤ v / 128; omega
      · show v / 128 ≤ 1099511627775; omega
      · show List.map Ab.byteOf (els ++ [_]) ++ encN (v / 128).toNat = _
        rw [List.map_append, List.append_assoc, ← he, encN_step hv]
        simp only [List.map_cons, List.map_nil, List.singleton_append, byte_more hv0]
      · show (v / 128).toNat < v.toNat; omega
    · repeat' (first | refine pa ?_ | (refine pb ?_ ?_ <;> intro hg) | refine po ?_ | fail)
      refine pfin ?_
      refine .inl (congrArg T.str ?_)
      rw [List.map_append, ← he, encN_lt (n := v.toNat) (by omega)]
      simp only [List.map_cons, List.map_nil, byte_last ⟨hv0, Int.not_le.1 hv⟩]
  · rw [encodeVarint, if_neg h]
    refine AC.go Try.func195 Try.ntmps195 fun B W hr => ?_
    repeat' (first | refine pa ?_ | (refine pb ?_ ?_ <;> intro hg) | refine po ?_ | fail)
    all_goals refine pfin ?_
    all_goals exact .inl rfl
set_option maxRecDepth 20000 in
set_option maxHeartbeats 4000000 in
theorem a_s_EncodeVarint (n : Int) : AC Try.prog 193 [.t (.int .i64 n)] (.t (.str (encodeVarint n))) := by
  have hr0 := a_s_l01In n 0 1099511627775
  by_cases h : 0 ≤ n ∧ n ≤ 1099511627775
  · have hl : (encN n.toNat).length ≤ 6 := by have := encodeVarint_len n; rwa [encodeVarint, if_pos h] at this
    rw [inR_iff.2 h] at hr0
    rw [encodeVarint, if_pos h]
    obtain ⟨h0, h1⟩ := h
    refine AC.go Try.func193 Try.ntmps193 fun B W hr => ?_
    repeat' (first | refine pa ?_ | (refine pb ?_ ?_ <;> intro hg) | (refine q4ed5 (n := 20) ?_; (first | refine qeaf1 (hr0) ?_)) | refine po ?_ | fail)
    refine aW.loopF rfl (fun q : Int × Nat × List (List T) => [(3, .hnd 7 q.2.1), (0, .t (.int .i64 q.1))]) [] (fun q : Int × Nat × List (List T) => [(7, q.2.1, .row true true 5 q.2.2)]) [] (fun q : Int × Nat × List (List T) => 0 ≤ q.1 ∧ q.1 ≤ 1099511627775 ∧ (∀ x ∈ q.2.2, Ab.isByte x = true) ∧ q.2.2.map Ab.byteOf ++ encN q.1.toNat = encN n.toNat) (fun q : Int × Nat × List (List T) => q.1.toNat) (n, 1, []) ⟨h0, h1, isB_nil, rfl⟩ (by (exact plei)) ?_
    rintro ⟨v, ep, els⟩ hI
    obtain ⟨hv0, hv1, hb, he⟩ : 0 ≤ v ∧ v ≤ 1099511627775 ∧ (∀ x ∈ els, Ab.isByte x = true) ∧ els.map Ab.byteOf ++ encN v.toNat = encN n.toNat := hI
    have hle := congrArg List.length he
    rw [List.length_append, List.length_map] at hle
    have hp := encN_pos v.toNat
    dsimp only [List.cons_append, List.nil_append]
    by_cases hv : 128 ≤ v
    · repeat' (first | refine pa ?_ | (refine pb ?_ ?_ <;> intro hg) | refine po ?_ | fail)
      have e7 := shr_7 v
      refine ⟨(v.fdiv (2 ^ (min (Int.toNat 7) IntKind.i64.bits)), _, _), ⟨?_, ?_, isB_app hb (isB_one rfl), ?_⟩, ?_, by (exact ple)⟩
      · show 0 ≤ v.fdiv _; rw [e7]; omega
      · show v.fdiv _ ≤ _; rw [e7]; omega
      · show List.map Ab.byteOf (els ++ [_]) ++ encN (v.fdiv _).toNat = _
        rw [e7, List.map_append, List.append_assoc, ← he, encN_step hv]
        have := byte_more_s hv0 hv1
        simp only [List.map_cons, List.map_nil, List.singleton_append]
        exact congrArg (fun z => els.map Ab.byteOf ++ z :: encN (v / 128).toNat) this
      · show (v.fdiv _).toNat < v.toNat; rw [e7]; omega
    · repeat' (first | refine pa ?_ | (refine pb ?_ ?_ <;> intro hg) | refine po ?_ | fail)
      refine pfin ?_
      refine .inl (congrArg T.str ?_)
      rw [List.map_append, ← he, encN_lt (n := v.toNat) (by omega)]
      simp only [List.map_cons, List.map_nil, byte_last ⟨hv0, Int.not_le.1 hv⟩]
  · have hf : inR n 0 1099511627775 = false := by rw [Bool.eq_false_iff]; exact fun g => h (inR_iff.1 g)
    rw [hf] at hr0
    rw [encodeVarint, if_neg h]
    refine AC.go Try.func193 Try.ntmps193 fun B W hr => ?_
    repeat' (first | refine pa ?_ | (refine pb ?_ ?_ <;> intro hg) | (refine q4ed5 (n := 20) ?_; (first | refine qeaf1 (hr0) ?_)) | refine po ?_ | fail)
    all_goals refine pfin ?_
    all_goals exact .inl rfl
end Go.Proofs.Ytmkpgcahmbancaa
namespace Go.Proofs.Ytmkpgcahmbancaa
set_option linter.unusedSimpArgs false
set_option linter.unusedVariables false
open Go.RowKit Ab
def shB (c : UInt8) (k : Nat) : Int := IntKind.i64.wrap (IntKind.i64.wrap (IntKind.u8.wrap (((BitVec.ofInt IntKind.u8.bits ((c.toNat : Nat) : Int) &&& BitVec.ofInt IntKind.u8.bits 127).toNat : Nat) : Int)) * 2 ^ (min (Int.toNat (7 * (k : Int))) IntKind.i64.bits))
theorem drop_get {s : List UInt8} {p : Nat} (h : p < s.length) : s.drop p = s.getD p 0 :: s.drop (p + 1) := by
  rw [List.drop_eq_getElem_cons h]; simp [h]
end Go.Proofs.Ytmkpgcahmbancaa
namespace Go.Proofs.Ytmkpgcahmbancaa
set_option linter.unusedSimpArgs false
set_option linter.unusedVariables false
open Go.RowKit Ab
theorem drop_at' {α : Type} [Inhabited α] {xs : List α} {k : Nat} (hk : k < xs.length) : xs.drop k = xs.getD k default :: xs.drop (k + 1) := by
  rw [List.drop_eq_getElem_cons hk]; simp [hk]
end Go.Proofs.Ytmkpgcahmbancaa
namespace Go.Proofs.Ytmkpgcahmbancaa
set_option linter.unusedSimpArgs false
set_option linter.unusedVariables false
open Go.RowKit Ab
end Go.Proofs.Ytmkpgcahmbancaa
