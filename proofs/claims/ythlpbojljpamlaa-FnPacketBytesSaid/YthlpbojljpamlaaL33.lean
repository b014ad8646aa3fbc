/- What is proved: the statement FnPacketBytes: packets can be read from their bytes, and not if one byte is changed.
   Conditions: none. -/
import Derived.Test.YthlpbojljpamlaaT24
import Derived.Test.YthlpbojljpamlaaT36
import Derived.Test.YthlpbojljpamlaaT34
import Derived.Test.YthlpbojljpamlaaAbsB
namespace Go.Proofs.Ythlpbojljpamlaa
open Go.RowKit Ab
theorem packI_ok : ∀ {xs : List Int} (_ : ∀ x ∈ xs, 0 ≤ signless x), ∃ o, packI xs = some o
  | [], _ => ⟨_, rfl⟩
  | x :: r, h => by
    obtain ⟨o, ho⟩ := packI_ok (xs := r) fun y hy => h y (by simp [hy])
    have := h x (by simp)
    refine ⟨encodeVarint (signless x) ++ o, ?_⟩
    unfold packI
    rw [ho]
    first
      | rfl
      | (rw [if_neg (by omega)]; rfl)
theorem signless_small {x : Int} (h : 0 ≤ x ∧ x ≤ 274877906943) : 0 ≤ signless x := by
  unfold signless
  rw [if_neg (by omega), if_pos h.1]
  omega
theorem PV.parts {p : PV} (h : p.ok) : (∀ x ∈ [p.fr, p.tk, p.fs, p.stk, p.sm, p.tm, p.ec], 0 ≤ x ∧ x ≤ 274877906943) ∧ (∀ x ∈ p.acks, 0 ≤ x ∧ x ≤ 400) ∧ p.acks.length ≤ 4 ∧ p.ins.length ≤ 40 ∧ inputsOkL p.ins = true := by
  unfold PV.ok packetOkL acksOkL at h
  simp only [Bool.and_eq_true, decide_eq_true_eq, inR_iff, List.all_eq_true] at h
  refine ⟨fun x hx => ?_, fun x hx => ?_, by omega, by omega, h.1.1.1.1.1.1.2⟩
  · simp only [List.mem_cons, List.not_mem_nil, or_false] at hx
    omega
  · exact h.1.1.1.1.1.1.1.1.1.2 x hx
def PV.bytes (p : PV) : List UInt8 := sealText (pktBody [p.fr, p.tk, p.fs, p.stk, p.sm, p.tm, p.ec] p.acks p.ins)
theorem PV.dec {p : PV} (h : p.ok) : decT p.bytes = ([p.fr, p.tk, p.fs, p.stk, p.sm, p.tm, p.ec], p.acks, p.ins, true) := by
  obtain ⟨h1, h2, h3, h4, h5⟩ := PV.parts h
  obtain ⟨o, ho⟩ := packI_ok (xs := [p.fr, p.tk, p.fs, p.stk, p.sm, p.tm, p.ec]) fun x hx => signless_small (h1 x hx)
  obtain ⟨q, hq⟩ := packI_ok (xs := p.acks) fun x hx => signless_small ⟨(h2 x hx).1, by have := (h2 x hx).2; omega⟩
  have hd := decParts_pack (head := [p.fr, p.tk, p.fs, p.stk, p.sm, p.tm, p.ec]) (acks := p.acks) (ins := p.ins) rfl (by omega) ho hq ⟨by omega, h5⟩
  unfold decT PV.bytes
  rw [hd]
  exact if_pos h
theorem PV.len (p : PV) (h : p.ok) : 4 ≤ p.bytes.length ∧ p.bytes.length ≤ 4096 := by
  obtain ⟨h1, h2, h3, h4, h5⟩ := PV.parts h
  unfold PV.bytes
  rw [sealText_len]
  unfold pktBody packText
  have a1 := packInts_len [p.fr, p.tk, p.fs, p.stk, p.sm, p.tm, p.ec]
  have a2 := packInts_len p.acks
  have a3 := packTrack_len p.ins
  have a4 := encodeVarint_len ((packTrack p.ins).length : Int)
  simp only [List.length_append, List.length_cons, List.length_nil] at *
  omega
/-- A byte that is changed by a number that is not 0. -/
def hurtB (c : UInt8) (v : Int) : Int := IntKind.u8.wrap (((BitVec.ofInt IntKind.u8.bits ((c.toNat : Nat) : Int) ^^^ BitVec.ofInt IntKind.u8.bits (IntKind.u8.wrap v)).toNat : Nat) : Int)
theorem hurt_ne {c : UInt8} {v : Int} (h : 1 ≤ v ∧ v ≤ 255) : UInt8.ofNat (hurtB c v).toNat ≠ c := by
  have hc := c.toNat_lt
  have hv : IntKind.u8.wrap v = v := by rw [wrap_u8]; omega
  have hX : (BitVec.ofInt 8 ((c.toNat : Nat) : Int) ^^^ BitVec.ofInt 8 v).toNat < 256 := (BitVec.ofInt 8 ((c.toNat : Nat) : Int) ^^^ BitVec.ofInt 8 v).isLt
  have e : hurtB c v = (((BitVec.ofInt 8 ((c.toNat : Nat) : Int) ^^^ BitVec.ofInt 8 v).toNat : Nat) : Int) := by
    unfold hurtB
    rw [hv, wrap_u8]
    show (((BitVec.ofInt 8 ((c.toNat : Nat) : Int) ^^^ BitVec.ofInt 8 v).toNat : Nat) : Int) % 256 = _
    omega
  rw [e, Int.toNat_natCast]
  intro hh
  have h1 : (BitVec.ofInt 8 ((c.toNat : Nat) : Int) ^^^ BitVec.ofInt 8 v).toNat = c.toNat := by
    have := congrArg UInt8.toNat hh
    rw [UInt8.toNat_ofNat'] at this
    omega
  have h2 : (BitVec.ofInt 8 ((c.toNat : Nat) : Int)).toNat = c.toNat := by
    rw [BitVec.ofInt_natCast, BitVec.toNat_ofNat]
    exact Nat.mod_eq_of_lt (by omega)
  have h3 : BitVec.ofInt 8 ((c.toNat : Nat) : Int) ^^^ BitVec.ofInt 8 v = BitVec.ofInt 8 ((c.toNat : Nat) : Int) := BitVec.eq_of_toNat_eq (by rw [h1, h2])
  have h4 : BitVec.ofInt 8 v = 0#8 := by
    have := congrArg (fun z => BitVec.ofInt 8 ((c.toNat : Nat) : Int) ^^^ z) h3
    simpa [← BitVec.xor_assoc] using this
  obtain ⟨n, rfl⟩ := Int.eq_ofNat_of_zero_le (show 0 ≤ v by omega)
  have h5 := congrArg BitVec.toNat h4
  rw [BitVec.ofInt_natCast, BitVec.toNat_ofNat] at h5
  simp at h5
  omega
def hurtS (s : List UInt8) (k : Nat) (v : Int) : List UInt8 := (s.take k ++ [UInt8.ofNat (hurtB (s.getD k 0) v).toNat]) ++ (s.drop (k + 1)).take (s.length - (k + 1))
theorem hurtS_eq {s : List UInt8} {k : Nat} {v : Int} (hk : k < s.length) : hurtS s k v = s.set k (UInt8.ofNat (hurtB (s.getD k 0) v).toNat) := by
  have h : (s.drop (k + 1)).take (s.length - (k + 1)) = s.drop (k + 1) := List.take_of_length_le (by rw [List.length_drop]; exact Nat.le_refl _)
  unfold hurtS
  rw [h, List.append_assoc, List.set_eq_take_append_cons_drop, if_pos hk]
  rfl
theorem PV.hurt {p : PV} {k : Nat} {v : Int} (hk : k < p.bytes.length) (hv : 1 ≤ v ∧ v ≤ 255) : decT (hurtS p.bytes k v) = ([0, 0, 0, 0, 0, 0, 0], [], [], false) := by
  refine decT_none ?_
  rw [hurtS_eq hk]
  have := openText_set (s := pktBody [p.fr, p.tk, p.fs, p.stk, p.sm, p.tm, p.ec] p.acks p.ins) (k := k) (x := UInt8.ofNat (hurtB (p.bytes.getD k 0) v).toNat) hk (hurt_ne hv)
  unfold decParts
  rw [show openText (p.bytes.set k (UInt8.ofNat (hurtB (p.bytes.getD k 0) v).toNat)) = none from this]
theorem hurtS_len {s : List UInt8} {k : Nat} {v : Int} (hk : k < s.length) : (hurtS s k v).length = s.length := by rw [hurtS_eq hk, List.length_set]
set_option maxRecDepth 20000 in
set_option maxHeartbeats 4000000 in
theorem a_FnPacketBytes_ (xs : List Int) : AC Try.prog 17 [.t (.lst true 5 (codeE xs))] (.t (.bool true)) := by
  have hb := a_l_big xs
  by_cases hbig : 1048576 < (xs.length : Int)
  · rw [decide_eq_true hbig] at hb
    refine AC.body Try.func17 rfl (by decide) rfl Try.ntmps17 (Nat.le_of_ble_eq_true rfl) fun B W hr => ?_
    repeat' (first | (first | refine aW.seq ?_ | refine aW.region ?_ | refine aW.ret ?_ | refine aW.skip ?_ | refine aW.block ?_ | refine aW.exit ?_ | refine q530b ?_ | refine q9fa3 ?_ | refine q163f (fun hg => ?_) (fun hg => ?_) | refine qa44e (fun hg => ?_) (fun hg => ?_)) | (first | refine q11db ?_ | refine qa9c6 ?_ | refine q4ea8 ?_ | refine qae47 ?_ | refine q69f7 ?_ | refine q55dd ?_ | refine q225e (fun hg => ?_) (fun hg => ?_) | refine qe1ad (fun hg => ?_) (fun hg => ?_)) | (first
    | (refine q4ed5 (n := 0) ?_; (first | refine q608d ?_))
    | (refine q4ed5 (n := 7) ?_; (first | refine qbeab ?_ | refine qf344 ?_ | refine q1cc1 ?_ | refine qdf15 ?_ | refine q851b ?_))
    | (refine q4ed5 (n := 10) ?_; (first | refine q3e25 ?_ | refine q151a ?_ | refine q4d24 ?_ | refine q4c13 ?_ | refine q5079 ?_ | refine qa508 ?_ | refine q138e ?_))
    | (refine q4ed5 (n := 15) ?_; (first | refine q4fbd ?_ | refine qaf33 ?_))
    | (refine q4ed5 (n := 1) ?_; (first | refine q9d68 ?_))
    | (refine q4ed5 (n := 20) ?_; (first | refine qeaf1 (hb) ?_ | refine q66b9 ?_ | refine q05c1 ?_ | refine qc4d0 ?_ | refine q6aa0 ?_ | refine q99ab ?_ | refine q24ef ?_ | refine q10cd ?_))
    | (refine q4ed5 (n := 2) ?_; (first | refine qace2 ?_ | refine q34f8 ?_))
    | (refine q4ed5 (n := 11) ?_; (first | refine qfade ?_ | refine q58d6 ?_ | refine q38bb ?_))
    | (refine q4ed5 (n := 8) ?_; (first | refine q7344 ?_ | refine q9326 ?_))
    | (refine q4ed5 (n := 3) ?_; (first | refine q8d11 ?_))
    | (refine q4ed5 (n := 19) ?_; (first | refine q2cdd ?_))
    | (refine q4ed5 (n := 18) ?_; (first | refine qfb2e ?_))
    | (refine q4ed5 (n := 6) ?_; (first | refine q3945 ?_))
    | (refine q4ed5 (n := 12) ?_; (first | refine qe007 ?_ | refine qb2b4 ?_ | refine q0db4 ?_ | refine qf8cf ?_ | refine q67a4 ?_ | refine q4288 ?_))
    | (refine q4ed5 (n := 14) ?_; (first | refine qf59b ?_ | refine q1347 ?_ | refine q64c4 ?_ | refine q5a78 ?_ | refine qf6aa ?_))) | fail)
    (show Done _ _ _ _ _; refine q1058 ?_)
    exact .inl rfl
  rw [decide_eq_false hbig] at hb
  have hxl : xs.length ≤ 1048576 := by omega
  have ha0 := a_l_at xs 0 (by omega)
  have ha1 := a_l_at xs 1 (by omega)
  refine AC.body Try.func17 rfl (by decide) rfl Try.ntmps17 (Nat.le_of_ble_eq_true rfl) fun B W hr => ?_
  obtain ⟨us, hus⟩ := hr
  obtain ⟨_, hcode⟩ := rdT_code (rdT_arg hus (i := 0) rfl)
  clear hus
  have b0 := atV_in hcode 0
  have b1 := atV_in hcode 1
  repeat' (first | (first | refine aW.seq ?_ | refine aW.region ?_ | refine aW.ret ?_ | refine aW.skip ?_ | refine aW.block ?_ | refine aW.exit ?_ | refine q530b ?_ | refine q9fa3 ?_ | refine q163f (fun hg => ?_) (fun hg => ?_) | refine qa44e (fun hg => ?_) (fun hg => ?_)) | (first | refine q11db ?_ | refine qa9c6 ?_ | refine q4ea8 ?_ | refine qae47 ?_ | refine q69f7 ?_ | refine q55dd ?_ | refine q225e (fun hg => ?_) (fun hg => ?_) | refine qe1ad (fun hg => ?_) (fun hg => ?_)) | (first
    | (refine q4ed5 (n := 0) ?_; (first | refine q608d ?_))
    | (refine q4ed5 (n := 7) ?_; (first | refine qbeab ?_ | refine qf344 ?_ | refine q1cc1 ?_ | refine qdf15 ?_ | refine q851b ?_))
    | (refine q4ed5 (n := 10) ?_; (first | refine q3e25 ?_ | refine q151a ?_ | refine q4d24 ?_ | refine q4c13 ?_ | refine q5079 ?_ | refine qa508 ?_ | refine q138e ?_))
    | (refine q4ed5 (n := 15) ?_; (first | refine q4fbd ?_ | refine qaf33 ?_))
    | (refine q4ed5 (n := 1) ?_; (first | refine q9d68 ?_))
    | (refine q4ed5 (n := 20) ?_; (first | refine qeaf1 (hb) ?_ | refine q66b9 ?_ | refine q05c1 ?_ | refine qc4d0 ?_ | refine q6aa0 ?_ | refine q99ab ?_ | refine q24ef ?_ | refine q10cd ?_ | (refine q608c (m := []) (a_s_DrawPacket xs hxl) (fun p hp => ?_); refine ⟨_, _, _, (by first | exact Imp3.ptr rfl (by first | exact ecfc rfl | exact ef62 rfl) | exact Imp3.hnd rfl (by first | exact ecfc rfl | exact ef62 rfl) | exact Imp3.imp rfl (by first | exact Imp2.other rfl rfl rfl | exact Imp2.fr (by first | exact ecfc rfl | exact ef62 rfl) | exact Imp2.agg (by first | ((repeat' (first | exact ImpL.nil | exact ImpT.nil | (apply ImpL.other; (focus exact rfl)) | (apply ImpL.fr; (focus exact (by first | exact ecfc rfl | exact ef62 rfl))) | (apply ImpT.other; (focus exact rfl); (focus exact rfl)) | apply ImpT.agg | (apply ImpT.fr; (focus exact (by first | exact ecfc rfl | exact ef62 rfl))))); done) | fail) | exact Imp2.tup (by first | ((repeat' (first | exact ImpL.nil | exact ImpT.nil | (apply ImpL.other; (focus exact rfl)) | (apply ImpL.fr; (focus exact (by first | exact ecfc rfl | exact ef62 rfl))) | (apply ImpT.other; (focus exact rfl); (focus exact rfl)) | apply ImpT.agg | (apply ImpT.fr; (focus exact (by first | exact ecfc rfl | exact ef62 rfl))))); done) | fail))), rfl, rfl, (by first | exact .inr rfl | exact .inl ⟨rfl, rfl⟩), rfl, rfl, (by first | ((repeat' (first | exact RenR.nil | exact RenL.nil | (apply RenR.row; (focus exact rfl); (focus exact (by first | exact ecfc rfl | exact ef62 rfl))) | (apply RenR.box; (focus exact rfl); (focus exact (by first | exact ecfc rfl | exact ef62 rfl))) | (apply RenR.gone; (focus exact rfl); (focus exact (by first | exact ecfc rfl | exact ef62 rfl))) | (apply RenL.hnd; (focus exact rfl); (focus exact (by first | exact ecfc rfl | exact ef62 rfl))) | (apply RenL.ptr; (focus exact rfl); (focus exact (by first | exact ecfc rfl | exact ef62 rfl))) | (apply RenL.view; (focus exact rfl); (focus exact (by first | exact ecfc rfl | exact ef62 rfl))) | (apply RenL.other; (focus exact rfl)))); done) | fail), ?_⟩)))
    | (refine q4ed5 (n := 2) ?_; (first | refine qace2 ?_ | refine q34f8 ?_))
    | (refine q4ed5 (n := 11) ?_; (first | refine qfade ?_ | refine q58d6 ?_ | refine q38bb ?_))
    | (refine q4ed5 (n := 8) ?_; (first | refine q7344 ?_ | refine q9326 ?_))
    | (refine q4ed5 (n := 3) ?_; (first | refine q8d11 ?_))
    | (refine q4ed5 (n := 19) ?_; (first | refine q2cdd ?_))
    | (refine q4ed5 (n := 18) ?_; (first | refine qfb2e ?_))
    | (refine q4ed5 (n := 6) ?_; (first | refine q3945 ?_))
    | (refine q4ed5 (n := 12) ?_; (first | refine qe007 ?_ | refine qb2b4 ?_ | refine q0db4 ?_ | refine qf8cf ?_ | refine q67a4 ?_ | refine q4288 ?_))
    | (refine q4ed5 (n := 14) ?_; (first | refine qf59b ?_ | refine q1347 ?_ | refine q64c4 ?_ | refine q5a78 ?_ | refine qf6aa ?_))) | fail)
  have he := a_i_EncodePacket p.fr p.tk p.fs p.stk p.sm p.tm p.ec p.ins p.acks
  rw [show encP p.fr p.tk p.fs p.ins p.acks p.stk p.sm p.tm p.ec = p.bytes from if_pos hp] at he
  have hl := PV.len p hp
  have hd := a_i_DecodePacket p.bytes (by omega)
  rw [PV.dec hp] at hd
  dsimp only [List.getD_cons_zero, List.getD_cons_succ] at hd
  repeat' (first | (first | refine aW.seq ?_ | refine aW.region ?_ | refine aW.ret ?_ | refine aW.skip ?_ | refine aW.block ?_ | refine aW.exit ?_ | refine q530b ?_ | refine q9fa3 ?_ | refine q163f (fun hg => ?_) (fun hg => ?_) | refine qa44e (fun hg => ?_) (fun hg => ?_)) | (first | refine q11db ?_ | refine qa9c6 ?_ | refine q4ea8 ?_ | refine qae47 ?_ | refine q69f7 ?_ | refine q55dd ?_ | refine q225e (fun hg => ?_) (fun hg => ?_) | refine qe1ad (fun hg => ?_) (fun hg => ?_)) | (first
    | (refine q4ed5 (n := 0) ?_; (first | refine q608d ?_))
    | (refine q4ed5 (n := 7) ?_; (first | refine qbeab ?_ | refine qf344 ?_ | refine q1cc1 ?_ | refine qdf15 ?_ | refine q851b ?_))
    | (refine q4ed5 (n := 10) ?_; (first | refine q3e25 ?_ | refine q151a ?_ | refine q4d24 ?_ | refine q4c13 ?_ | refine q5079 ?_ | refine qa508 ?_ | refine q138e ?_))
    | (refine q4ed5 (n := 15) ?_; (first | refine q4fbd ?_ | refine qaf33 ?_))
    | (refine q4ed5 (n := 1) ?_; (first | refine q9d68 ?_))
    | (refine q4ed5 (n := 20) ?_; (first | refine qeaf1 (he) ?_ | refine qeaf1 (ha0) ?_ | refine q66b9 ?_ | refine q05c1 ?_ | refine qc4d0 ?_ | refine q6aa0 ?_ | refine q99ab ?_ | refine q24ef ?_ | refine q10cd ?_ | refine q03c7 (hd) ?_))
    | (refine q4ed5 (n := 2) ?_; (first | refine qace2 ?_ | refine q34f8 ?_))
    | (refine q4ed5 (n := 11) ?_; (first | refine qfade ?_ | refine q58d6 ?_ | refine q38bb ?_))
    | (refine q4ed5 (n := 8) ?_; (first | refine q7344 ?_ | refine q9326 ?_))
    | (refine q4ed5 (n := 3) ?_; (first | refine q8d11 ?_))
    | (refine q4ed5 (n := 19) ?_; (first | refine q2cdd ?_))
    | (refine q4ed5 (n := 18) ?_; (first | refine qfb2e ?_))
    | (refine q4ed5 (n := 6) ?_; (first | refine q3945 ?_))
    | (refine q4ed5 (n := 12) ?_; (first | refine qe007 ?_ | refine qb2b4 ?_ | refine q0db4 ?_ | refine qf8cf ?_ | refine q67a4 ?_ | refine q4288 ?_))
    | (refine q4ed5 (n := 14) ?_; (first | refine qf59b ?_ | refine q1347 ?_ | refine q64c4 ?_ | refine q5a78 ?_ | refine qf6aa ?_))) | fail)
  obtain ⟨k, hk, hkl⟩ : ∃ k : Nat, (atV xs 0).tmod (if (p.bytes.length : Int) > 1 then (p.bytes.length : Int) else 1) = (k : Int) ∧ k < p.bytes.length := by
    rw [if_pos (by omega), Int.tmod_eq_emod_of_nonneg b0.1]
    have m1 : 0 ≤ atV xs 0 % (p.bytes.length : Int) := Int.emod_nonneg _ (by omega)
    have m2 : atV xs 0 % (p.bytes.length : Int) < p.bytes.length := Int.emod_lt_of_pos _ (by omega)
    exact ⟨(atV xs 0 % (p.bytes.length : Int)).toNat, by omega, by omega⟩
  rw [hk]
  clear hk
  have hv : 1 ≤ 1 + (atV xs 1).tmod 255 ∧ 1 + (atV xs 1).tmod 255 ≤ 255 := by
    rw [Int.tmod_eq_emod_of_nonneg b1.1]
    omega
  have hh := a_i_DecodePacket (hurtS p.bytes k (1 + (atV xs 1).tmod 255)) (by rw [hurtS_len hkl]; omega)
  rw [PV.hurt hkl hv] at hh
  dsimp only [List.getD_cons_zero, List.getD_cons_succ] at hh
  have hok := a_i_PacketOk p.fr p.tk p.fs p.stk p.sm p.tm p.ec p.ins p.acks
  rw [show packetOkL p.fr p.tk p.fs p.ins p.acks p.stk p.sm p.tm p.ec = true from hp] at hok
  have hs1 := a_l_sameInts p.ins
  have hs2 := a_l_sameInts p.acks
  have hmx : maxLen = 9223372036854775807 := rfl
  refine aW.draw (os := [3, 5]) (Checked.mixed Try.checked) rfl (by refine aA.to (n' := 27) rfl rfl ?_; (apply aA.cut (ls := #[true, true, true, true, true, true, true, true, true, true, true, true, true, true, true, true, true, true, true, true, true, true, true, true, true, true, false]) (n := 1); (focus (intro hd16; (apply aA.cut (ls := #[true, true, true, true, true, true, true, true, true, true, true, true, true, true, true, true, true, true, true, true, true, false, false, false, true, false, false]) (n := 5); (focus (intro hd15; (apply aA.cut (ls := #[true, true, true, true, true, true, true, true, true, true, true, true, true, true, true, true, true, true, true, true, true, true, true, true, true, false, false]) (n := 2); (focus (intro hd14; (apply aA.cut (ls := #[true, true, true, true, true, true, true, true, true, true, true, true, true, true, false, true, true, true, true, false, false, false, false, false, true, false, false]) (n := 8); (focus (intro hd13; (apply aA.cut (ls := #[true, true, true, true, true, true, true, true, true, true, true, true, true, true, true, true, true, true, true, true, false, false, false, false, true, false, false]) (n := 6); (focus (intro hd12; (apply aA.cut (ls := #[true, true, true, true, true, true, true, true, true, true, true, true, true, true, true, true, true, true, true, true, true, false, false, false, false, false, false]) (n := 6); (focus (intro hd11; (apply aA.cut (ls := #[true, true, true, true, true, true, true, true, true, true, true, true, true, false, false, true, true, true, true, false, false, false, false, false, true, false, false]) (n := 9); (focus (intro hd10; (apply aA.cut (ls := #[true, true, true, true, true, true, true, true, true, true, true, true, true, true, false, true, true, true, true, false, false, false, false, false, false, false, false]) (n := 9); (focus (intro hd9; (apply aA.cut (ls := #[true, true, true, true, true, true, true, true, true, true, true, false, false, false, false, true, true, true, true, false, false, false, false, false, true, false, false]) (n := 11); (focus (intro hd8; (apply aA.cut (ls := #[true, true, true, true, true, true, true, true, true, true, true, true, false, false, false, true, true, true, true, false, false, false, false, false, true, false, false]) (n := 10); (focus (intro hd7; (apply aA.cut (ls := #[true, true, true, true, true, true, true, true, true, true, true, true, true, false, false, true, true, true, true, false, false, false, false, false, false, false, false]) (n := 10); (focus (intro hd6; (apply aA.cut (ls := #[true, true, true, true, true, true, true, true, false, false, false, false, false, false, false, true, true, true, true, false, false, false, false, false, true, false, false]) (n := 14); (focus (intro hd5; (apply aA.cut (ls := #[true, true, true, true, true, true, true, true, true, true, false, false, false, false, false, true, true, true, true, false, false, false, false, false, true, false, false]) (n := 12); (focus (intro hd4; (apply aA.cut (ls := #[true, true, true, true, true, true, true, true, true, true, true, false, false, false, false, true, true, true, true, false, false, false, false, false, false, false, false]) (n := 12); (focus (intro hd3; (apply aA.cut (ls := #[true, true, true, true, true, true, true, false, false, false, false, false, false, false, false, true, true, true, true, false, false, false, false, false, true, false, false]) (n := 15); (focus (intro hd2; (apply aA.cut (ls := #[true, true, true, true, true, true, true, true, false, false, false, false, false, false, false, true, true, true, true, false, false, false, false, false, false, false, false]) (n := 15); (focus (intro hd1; ((refine qf698 (i := 0) ?_; (refine q2680 (n := 0) ?_; (first | refine q2bd3 ?_))) <;> (refine qf698 (i := 1) ?_; (refine q2680 (n := 0) ?_; (first | refine q2bd3 ?_))) <;> (refine qf698 (i := 2) ?_; (refine q2680 (n := 14) ?_; (first | refine q7ba4 ?_ | refine q3d15 ?_ | refine qc6fb ?_ | refine q467e ?_ | refine q85b5 ?_))) <;> (refine qf698 (i := 3) ?_; (refine q2680 (n := 0) ?_; (first | refine q2bd3 ?_))) <;> (refine qf698 (i := 4) ?_; (refine q2680 (n := 0) ?_; (first | refine q2bd3 ?_))) <;> (refine qf698 (i := 5) ?_; (refine q2680 (n := 18) ?_; (first | refine q96c2 ?_))) <;> (refine qf698 (i := 6) ?_; (refine q2680 (n := 0) ?_; (first | refine q2bd3 ?_))) <;> (refine qf698 (i := 15) ?_; (refine q2680 (n := 0) ?_; (first | refine q2bd3 ?_))) <;> (refine qf698 (i := 16) ?_; (refine q2680 (n := 0) ?_; (first | refine q2bd3 ?_))) <;> (refine qf698 (i := 17) ?_; (refine q2680 (n := 10) ?_; (first | refine q058e ?_ | refine q8176 ?_ | refine qf8ce ?_ | refine qb7fa ?_ | refine qdf77 ?_ | refine q68f0 ?_ | refine qe817 ?_))) <;> (refine qf698 (i := 18) ?_; (refine q2680 (n := 14) ?_; (first | refine q7ba4 ?_ | refine q3d15 ?_ | refine qc6fb ?_ | refine q467e ?_ | refine q85b5 ?_))) <;> (refine qbcf6 (rs := [7, 24]) (And.intro ?_ (And.intro ?_ trivial)); (focus ((refine q503a ?_; (refine q4ed5 (n := 20) ?_; (first | refine qeaf1 (ha1) ?_))) <;> ((try dsimp only [St.put, St.upds, updl, List.append_nil, List.cons_append, List.nil_append, argT, Nat.reduceAdd, Nat.zero_add]); exact aA.to (by kernel_rfl) rfl hd1))); (focus ((refine q503a ?_; (refine q4ed5 (n := 3) ?_; (first | refine q8d11 ?_))) <;> ((try dsimp only [St.put, St.upds, updl, List.append_nil, List.cons_append, List.nil_append, argT, Nat.reduceAdd, Nat.zero_add]); exact aA.to (by kernel_rfl) rfl hd2))))))); (case main => ((refine qf698 (i := 8) ?_; (refine q2680 (n := 10) ?_; (first | refine q058e ?_ | refine q8176 ?_ | refine qf8ce ?_ | refine qb7fa ?_ | refine qdf77 ?_ | refine q68f0 ?_ | refine qe817 ?_))) <;> (refine qf698 (i := 9) ?_; (refine q2680 (n := 10) ?_; (first | refine q058e ?_ | refine q8176 ?_ | refine qf8ce ?_ | refine qb7fa ?_ | refine qdf77 ?_ | refine q68f0 ?_ | refine qe817 ?_))) <;> (refine qbcf6 (rs := [10, 24]) (And.intro ?_ (And.intro ?_ trivial)); (focus ((refine q503a ?_; (refine q4ed5 (n := 12) ?_; (first | refine qe007 ?_ | refine qb2b4 ?_ | refine q0db4 ?_ | refine qf8cf ?_ | refine q67a4 ?_ | refine q4288 ?_))) <;> ((try dsimp only [St.put, St.upds, updl, List.append_nil, List.cons_append, List.nil_append, argT, Nat.reduceAdd, Nat.zero_add]); exact aA.to (by kernel_rfl) rfl hd3))); (focus ((refine q503a ?_; (refine q4ed5 (n := 3) ?_; (first | refine q8d11 ?_))) <;> ((try dsimp only [St.put, St.upds, updl, List.append_nil, List.cons_append, List.nil_append, argT, Nat.reduceAdd, Nat.zero_add]); exact aA.to (by kernel_rfl) rfl hd4))))))))); (case main => ((refine qbcf6 (rs := [7]) (And.intro ?_ trivial); (focus ((refine q503a ?_; (refine q4ed5 (n := 20) ?_; (first | refine qeaf1 (ha1) ?_))) <;> ((try dsimp only [St.put, St.upds, updl, List.append_nil, List.cons_append, List.nil_append, argT, Nat.reduceAdd, Nat.zero_add]); exact aA.to (by kernel_rfl) rfl hd5))))))))); (case main => ((refine qf698 (i := 11) ?_; (refine q2680 (n := 10) ?_; (first | refine q058e ?_ | refine q8176 ?_ | refine qf8ce ?_ | refine qb7fa ?_ | refine qdf77 ?_ | refine q68f0 ?_ | refine qe817 ?_))) <;> (refine qbcf6 (rs := [12, 24]) (And.intro ?_ (And.intro ?_ trivial)); (focus ((refine q503a ?_; (refine q4ed5 (n := 6) ?_; (first | refine q3945 ?_))) <;> ((try dsimp only [St.put, St.upds, updl, List.append_nil, List.cons_append, List.nil_append, argT, Nat.reduceAdd, Nat.zero_add]); exact aA.to (by kernel_rfl) rfl hd6))); (focus ((refine q503a ?_; (refine q4ed5 (n := 3) ?_; (first | refine q8d11 ?_))) <;> ((try dsimp only [St.put, St.upds, updl, List.append_nil, List.cons_append, List.nil_append, argT, Nat.reduceAdd, Nat.zero_add]); exact aA.to (by kernel_rfl) rfl hd7))))))))); (case main => ((refine qbcf6 (rs := [10]) (And.intro ?_ trivial); (focus ((refine q503a ?_; (refine q4ed5 (n := 12) ?_; (first | refine qe007 ?_ | refine qb2b4 ?_ | refine q0db4 ?_ | refine qf8cf ?_ | refine q67a4 ?_ | refine q4288 ?_))) <;> ((try dsimp only [St.put, St.upds, updl, List.append_nil, List.cons_append, List.nil_append, argT, Nat.reduceAdd, Nat.zero_add]); exact aA.to (by kernel_rfl) rfl hd8))))))))); (case main => ((refine qf698 (i := 8) ?_; (refine q2680 (n := 10) ?_; (first | refine q058e ?_ | refine q8176 ?_ | refine qf8ce ?_ | refine qb7fa ?_ | refine qdf77 ?_ | refine q68f0 ?_ | refine qe817 ?_))) <;> (refine qf698 (i := 9) ?_; (refine q2680 (n := 10) ?_; (first | refine q058e ?_ | refine q8176 ?_ | refine qf8ce ?_ | refine qb7fa ?_ | refine qdf77 ?_ | refine q68f0 ?_ | refine qe817 ?_))) <;> (refine qbcf6 (rs := [10]) (And.intro ?_ trivial); (focus ((refine q503a ?_; (refine q4ed5 (n := 12) ?_; (first | refine qe007 ?_ | refine qb2b4 ?_ | refine q0db4 ?_ | refine qf8cf ?_ | refine q67a4 ?_ | refine q4288 ?_))) <;> (exact aA.to (by kernel_rfl) rfl (aA.weak hd8 (Le.ofU rfl (by repeat' (first | exact trivial | refine And.intro ?_ ?_ | exact Eq.refl _)) (by repeat' (first | exact trivial | refine And.intro ?_ ?_ | exact Eq.refl _)) rfl))))))))))); (case main => ((refine qbcf6 (rs := [13, 24]) (And.intro ?_ (And.intro ?_ trivial)); (focus ((refine q503a ?_; (refine q4ed5 (n := 12) ?_; (first | refine qe007 ?_ | refine qb2b4 ?_ | refine q0db4 ?_ | refine qf8cf ?_ | refine q67a4 ?_ | refine q4288 ?_))) <;> ((try dsimp only [St.put, St.upds, updl, List.append_nil, List.cons_append, List.nil_append, argT, Nat.reduceAdd, Nat.zero_add]); exact aA.to (by kernel_rfl) rfl hd9))); (focus ((refine q503a ?_; (refine q4ed5 (n := 3) ?_; (first | refine q8d11 ?_))) <;> ((try dsimp only [St.put, St.upds, updl, List.append_nil, List.cons_append, List.nil_append, argT, Nat.reduceAdd, Nat.zero_add]); exact aA.to (by kernel_rfl) rfl hd10))))))))); (case main => ((refine qbcf6 (rs := [12]) (And.intro ?_ trivial); (focus ((refine q503a ?_; (refine q4ed5 (n := 6) ?_; (first | refine q3945 ?_))) <;> (exact aA.to (by kernel_rfl) rfl (aA.weak hd10 (Le.ofU rfl (by repeat' (first | exact trivial | refine And.intro ?_ ?_ | exact Eq.refl _)) (by repeat' (first | exact trivial | refine And.intro ?_ ?_ | exact Eq.refl _)) rfl))))))))))); (case main => ((refine qf698 (i := 11) ?_; (refine q2680 (n := 10) ?_; (first | refine q058e ?_ | refine q8176 ?_ | refine qf8ce ?_ | refine qb7fa ?_ | refine qdf77 ?_ | refine q68f0 ?_ | refine qe817 ?_))) <;> (refine qbcf6 (rs := [12]) (And.intro ?_ trivial); (focus ((refine q503a ?_; (refine q4ed5 (n := 6) ?_; (first | refine q3945 ?_))) <;> (exact aA.to (by kernel_rfl) rfl (aA.weak hd10 (Le.ofU rfl (by repeat' (first | exact trivial | refine And.intro ?_ ?_ | exact Eq.refl _)) (by repeat' (first | exact trivial | refine And.intro ?_ ?_ | exact Eq.refl _)) rfl))))))))))); (case main => ((refine qf698 (i := 14) ?_; (refine q2680 (n := 10) ?_; (first | refine q058e ?_ | refine q8176 ?_ | refine qf8ce ?_ | refine qb7fa ?_ | refine qdf77 ?_ | refine q68f0 ?_ | refine qe817 ?_))) <;> (refine qf698 (i := 19) ?_; (refine q2680 (n := 10) ?_; (first | refine q058e ?_ | refine q8176 ?_ | refine qf8ce ?_ | refine qb7fa ?_ | refine qdf77 ?_ | refine q68f0 ?_ | refine qe817 ?_))) <;> (refine qbcf6 (rs := [20, 24]) (And.intro ?_ (And.intro ?_ trivial)); (focus ((refine q503a ?_; (refine q4ed5 (n := 20) ?_; (first | refine q03c7 (hh) ?_))) <;> ((try dsimp only [St.put, St.upds, updl, List.append_nil, List.cons_append, List.nil_append, argT, Nat.reduceAdd, Nat.zero_add]); exact aA.to (by kernel_rfl) rfl hd11))); (focus ((refine q503a ?_; (refine q4ed5 (n := 3) ?_; (first | refine q8d11 ?_))) <;> ((try dsimp only [St.put, St.upds, updl, List.append_nil, List.cons_append, List.nil_append, argT, Nat.reduceAdd, Nat.zero_add]); exact aA.to (by kernel_rfl) rfl hd12))))))))); (case main => ((refine qbcf6 (rs := [13]) (And.intro ?_ trivial); (focus ((refine q503a ?_; (refine q4ed5 (n := 12) ?_; (first | refine qe007 ?_ | refine qb2b4 ?_ | refine q0db4 ?_ | refine qf8cf ?_ | refine q67a4 ?_ | refine q4288 ?_))) <;> ((try dsimp only [St.put, St.upds, updl, List.append_nil, List.cons_append, List.nil_append, argT, Nat.reduceAdd, Nat.zero_add]); exact aA.to (by kernel_rfl) rfl hd13))))))))); (case main => ((refine qf698 (i := 21) ?_; (refine q2680 (n := 0) ?_; (first | refine q2bd3 ?_))) <;> (refine qf698 (i := 22) ?_; (refine q2680 (n := 19) ?_; (first | refine q892c ?_))) <;> (refine qf698 (i := 23) ?_; (refine q2680 (n := 19) ?_; (first | refine q892c ?_))) <;> (refine qbcf6 (rs := [24]) (And.intro ?_ trivial); (focus ((refine q503a ?_; (refine q4ed5 (n := 3) ?_; (first | refine q8d11 ?_))) <;> ((try dsimp only [St.put, St.upds, updl, List.append_nil, List.cons_append, List.nil_append, argT, Nat.reduceAdd, Nat.zero_add]); exact aA.to (by kernel_rfl) rfl hd14))))))))); (case main => ((refine qbcf6 (rs := [20]) (And.intro ?_ trivial); (focus ((refine q503a ?_; (refine q4ed5 (n := 20) ?_; (first | refine q03c7 (hh) ?_))) <;> ((try dsimp only [St.put, St.upds, updl, List.append_nil, List.cons_append, List.nil_append, argT, Nat.reduceAdd, Nat.zero_add]); exact aA.to (by kernel_rfl) rfl hd15))))))))); (case main => ((refine qf698 (i := 14) ?_; (refine q2680 (n := 10) ?_; (first | refine q058e ?_ | refine q8176 ?_ | refine qf8ce ?_ | refine qb7fa ?_ | refine qdf77 ?_ | refine q68f0 ?_ | refine qe817 ?_))) <;> (refine qf698 (i := 19) ?_; (refine q2680 (n := 10) ?_; (first | refine q058e ?_ | refine q8176 ?_ | refine qf8ce ?_ | refine qb7fa ?_ | refine qdf77 ?_ | refine q68f0 ?_ | refine qe817 ?_))) <;> (refine qbcf6 (rs := [20]) (And.intro ?_ trivial); (focus ((refine q503a ?_; (refine q4ed5 (n := 20) ?_; (first | refine q03c7 (hh) ?_))) <;> (exact aA.to (by kernel_rfl) rfl (aA.weak hd15 (Le.ofU rfl (by repeat' (first | exact trivial | refine And.intro ?_ ?_ | exact Eq.refl _)) (by repeat' (first | exact trivial | refine And.intro ?_ ?_ | exact Eq.refl _)) rfl))))))))))); (case main => ((refine qbcf6 (rs := [25]) (And.intro ?_ trivial); (focus ((refine q503a ?_; (refine q4ed5 (n := 8) ?_; (first | refine q7344 ?_ | refine q9326 ?_))) <;> ((try dsimp only [St.put, St.upds, updl, List.append_nil, List.cons_append, List.nil_append, argT, Nat.reduceAdd, Nat.zero_add]); exact aA.to (by kernel_rfl) rfl hd16))))))))); (case main => ((refine qf698 (i := 21) ?_; (refine q2680 (n := 0) ?_; (first | refine q2bd3 ?_))) <;> (refine qf698 (i := 22) ?_; (refine q2680 (n := 19) ?_; (first | refine q892c ?_))) <;> (refine qf698 (i := 23) ?_; (refine q2680 (n := 19) ?_; (first | refine q892c ?_))) <;> (refine qbcf6 (rs := [25]) (And.intro ?_ trivial); (focus ((refine q503a ?_; (refine q4ed5 (n := 8) ?_; (first | refine q7344 ?_ | refine q9326 ?_))) <;> (exact aA.to (by kernel_rfl) rfl (aA.weak hd16 (Le.ofU rfl (by repeat' (first | exact trivial | refine And.intro ?_ ?_ | exact Eq.refl _)) (by repeat' (first | exact trivial | refine And.intro ?_ ?_ | exact Eq.refl _)) rfl))))))))))); (case main => ((refine qf698 (i := 26) ?_; (refine q2680 (n := 1) ?_; (first | refine q4aee ?_))) <;> (refine q5333 ?_; exact qf2c0))))) ?_
  repeat' (first | (first | refine aW.seq ?_ | refine aW.region ?_ | refine aW.ret ?_ | refine aW.skip ?_ | refine aW.block ?_ | refine aW.exit ?_ | refine q530b ?_ | refine q9fa3 ?_ | refine q163f (fun hg => ?_) (fun hg => ?_) | refine qa44e (fun hg => ?_) (fun hg => ?_)) | (first | refine q11db ?_ | refine qa9c6 ?_ | refine q4ea8 ?_ | refine qae47 ?_ | refine q69f7 ?_ | refine q55dd ?_ | refine q225e (fun hg => ?_) (fun hg => ?_) | refine qe1ad (fun hg => ?_) (fun hg => ?_)) | (first
    | (refine q4ed5 (n := 0) ?_; (first | refine q608d ?_))
    | (refine q4ed5 (n := 7) ?_; (first | refine qbeab ?_ | refine qf344 ?_ | refine q1cc1 ?_ | refine qdf15 ?_ | refine q851b ?_))
    | (refine q4ed5 (n := 10) ?_; (first | refine q3e25 ?_ | refine q151a ?_ | refine q4d24 ?_ | refine q4c13 ?_ | refine q5079 ?_ | refine qa508 ?_ | refine q138e ?_))
    | (refine q4ed5 (n := 15) ?_; (first | refine q4fbd ?_ | refine qaf33 ?_))
    | (refine q4ed5 (n := 1) ?_; (first | refine q9d68 ?_))
    | (refine q4ed5 (n := 20) ?_; (first | refine qeaf1 (hs1) ?_ | refine qeaf1 (hs2) ?_ | refine qeaf1 (hok) ?_ | refine q66b9 ?_ | refine q05c1 ?_ | refine qc4d0 ?_ | refine q6aa0 ?_ | refine q99ab ?_ | refine q24ef ?_ | refine q10cd ?_))
    | (refine q4ed5 (n := 2) ?_; (first | refine qace2 ?_ | refine q34f8 ?_))
    | (refine q4ed5 (n := 11) ?_; (first | refine qfade ?_ | refine q58d6 ?_ | refine q38bb ?_))
    | (refine q4ed5 (n := 8) ?_; (first | refine q7344 ?_ | refine q9326 ?_))
    | (refine q4ed5 (n := 3) ?_; (first | refine q8d11 ?_))
    | (refine q4ed5 (n := 19) ?_; (first | refine q2cdd ?_))
    | (refine q4ed5 (n := 18) ?_; (first | refine qfb2e ?_))
    | (refine q4ed5 (n := 6) ?_; (first | refine q3945 ?_))
    | (refine q4ed5 (n := 12) ?_; (first | refine qe007 ?_ | refine qb2b4 ?_ | refine q0db4 ?_ | refine qf8cf ?_ | refine q67a4 ?_ | refine q4288 ?_))
    | (refine q4ed5 (n := 14) ?_; (first | refine qf59b ?_ | refine q1347 ?_ | refine q64c4 ?_ | refine q5a78 ?_ | refine qf6aa ?_))) | fail)
  (show Done _ _ _ _ _; refine q1058 ?_)
  exact .inl rfl
theorem a_FnPacketBytes (xs : (TY.slice 5 (.int .u8)).V) : AC Try.prog 17 [TY.arg (.slice 5 (.int .u8)) xs] (.t (.bool true)) := a_FnPacketBytes_ xs
open Go.ChangeShapes Go.WideShapes
set_option maxRecDepth 100000 in
theorem FnPacketBytes_lifted (os : Os) (started : os.Started) (H : Type) (enc : TypeId × Value → H) :
    ReturnsInHanded {} Try.checked os 17 .any (Rows.fnPacketBytesSpec.pre6 enc Try.prog Try.f17 Rows.fnPacketBytesRow.domain false) (Rows.fnPacketBytesSpec.post enc Try.prog Try.f17 false true false false) := by
  refine law_lift (C := Try.checked) Try.own started (by kernel_rfl) Try.func17 Try.laidOut (by kernel_rfl) (tb := 4) rfl Try.underlying4 rfl ?_
    (ChangeSpec.witness6 (enc := enc) (C := Try.checked) false ⟨#[], #[.slice none 0 0], []⟩ 8 (by kernel_rfl) (by kernel_rfl) (by kernel_rfl) (by kernel_rfl)) ?_
  · intro W vs ds ps hA
    have hA : DataW.TrodAll enc Try.prog W 0 (fun _ => true) true Try.f17.params.toList vs ds ps := hA
    rw [Try.params17] at hA
    obtain ⟨v0, vs0, d0, ds0, p0, q0, rfl, rfl, rfl, h0, r0⟩ := trodAll_cons hA
    obtain ⟨rfl, rfl, rfl⟩ := trodAll_nil r0
    rfl
  · intro W base args ds p hok0 hA hlt
    have hA : DataW.TrodAll enc Try.prog W 0 (fun _ => true) true Try.f17.params.toList args.toList ds p := hA
    have hok : ∀ (j : Nat) t v, Try.f17.params[j]? = some t → args[j]? = some v → Value.okWide Try.prog W .any base t v := hok0
    clear hok0
    rw [Try.params17] at hA hok
    obtain ⟨args⟩ := args
    obtain ⟨v0, vs0, d0, ds0, p0, q0, hv0, rfl, rfl, h0, r0⟩ := trodAll_cons hA
    have hv0 : args = v0 :: vs0 := hv0; subst hv0
    obtain ⟨rfl, rfl, rfl⟩ := trodAll_nil r0
    obtain ⟨cs0, y0, g0, rfl⟩ := open_val (T := (.slice 5 (.int .u8))) (by kernel_rfl) (hok 0 _ _ rfl rfl) h0
    clear hok hA hlt
    exact law_ac (a_FnPacketBytes y0) (Ab.Pw.cons (arg_c1 (t := (.slice 5 (.int .u8))) (by kernel_rfl) g0 rfl) Ab.Pw.nil)

set_option maxHeartbeats 4000000 in
theorem FnPacketBytes_closed : joinedFacts Try.prog 17 Try.f17 Rows.fnPacketBytesSpec Rows.fnPacketBytesRow = true := by
  simp only [joinedFacts, Bool.and_eq_true]
  exact ⟨⟨⟨⟨⟨⟨⟨⟨⟨⟨⟨⟨⟨⟨⟨⟨⟨⟨⟨⟨⟨⟨⟨⟨⟨⟨⟨⟨⟨⟨⟨(by as_aux_lemma => kernel_rfl), (by as_aux_lemma => kernel_rfl)⟩, (by as_aux_lemma => kernel_rfl)⟩, (by as_aux_lemma => kernel_rfl)⟩, (by as_aux_lemma => kernel_rfl)⟩, (by as_aux_lemma => kernel_rfl)⟩, (by as_aux_lemma => kernel_rfl)⟩, (by as_aux_lemma => kernel_rfl)⟩, (by as_aux_lemma => kernel_rfl)⟩, (by as_aux_lemma => kernel_rfl)⟩, (by as_aux_lemma => kernel_rfl)⟩, (by as_aux_lemma => kernel_rfl)⟩, (by as_aux_lemma => kernel_rfl)⟩, (by as_aux_lemma => kernel_rfl)⟩, (by as_aux_lemma => kernel_rfl)⟩, (by as_aux_lemma => kernel_rfl)⟩, (by as_aux_lemma => kernel_rfl)⟩, (by as_aux_lemma => kernel_rfl)⟩, (by as_aux_lemma => kernel_rfl)⟩, (by as_aux_lemma => kernel_rfl)⟩, (by as_aux_lemma => kernel_rfl)⟩, (by as_aux_lemma => kernel_rfl)⟩, (by as_aux_lemma => kernel_rfl)⟩, (by as_aux_lemma => kernel_rfl)⟩, (by as_aux_lemma => kernel_rfl)⟩, Try.mayEnter⟩, (lifted_of Try.liftsFinal)⟩, (made_of Try.make)⟩, (by as_aux_lemma => kernel_rfl)⟩, (by as_aux_lemma => kernel_rfl)⟩, (by as_aux_lemma => kernel_rfl)⟩, (by as_aux_lemma => kernel_rfl)⟩

theorem FnPacketBytes_holds : Rows.FnPacketBytesSaid :=
  OpenClaim.holds_of_wide 17 Try.f17 rfl rfl rfl rfl rfl rfl rfl ⟨rfl, rfl, rfl, rfl, rfl⟩ rfl rfl rfl rfl rfl (by kernel_rfl) Try.func17 FnPacketBytes_closed
    (of_decide_eq_true (by kernel_rfl)) (by unfold Func.isWrapper; first | (rw [if_pos (by decide +kernel)]; kernel_rfl) | (rw [if_neg (by decide +kernel)]; exact ⟨rfl, rfl⟩))
    (fun os started H enc _ => FnPacketBytes_lifted os started H enc)

end Go.Proofs.Ythlpbojljpamlaa
