/- What is proved: the contract of TakePacket, whatever the arguments, and of PacketOk in the statement's form.
   Conditions: none beyond those that each lemma names. -/
import Derived.Test.YtoolhhgfeklhcaaTake
namespace Go.Proofs.Ytoolhhgfeklhcaa
open Go.RowKit

theorem sumLen_set : ∀ (ts : List (List Int)) (k : Nat) (x : List Int), sumLen (ts.set k x) ≤ sumLen ts + x.length
  | [], _, _ => by simp [sumLen]
  | t :: ts, 0, x => by simp [sumLen]; omega
  | t :: ts, k + 1, x => by
    have h := sumLen_set ts k x
    have e1 : sumLen ((t :: ts).set (k + 1) x) = t.length + sumLen (ts.set k x) := by simp [sumLen]
    have e2 : sumLen (t :: ts) = t.length + sumLen ts := by simp [sumLen]
    omega
theorem takePacket_len {ts : List (List Int)} {ok : Bool} {a first : Int} {xs : List Int} {m : Nat} (h : ts.length + sumLen ts ≤ 1048576) : ts.length + sumLen (takePacket ts ok a first xs m).1 ≤ 4194304 := by
  unfold takePacket
  split
  · rename_i hc
    have h1 := sumLen_set ts a.toNat (addInputs (ts.getD a.toNat []) first xs).1
    have h2 := addInputs_len (t := ts.getD a.toNat []) (first := first) (ins := xs)
    have h3 : (ts.getD a.toNat []).length ≤ 1048576 := by
      rw [List.getD_eq_getElem?_getD]
      by_cases hk : a.toNat < ts.length
      · rw [List.getElem?_eq_getElem hk]
        have e1 := sumLen_step hk
        have e2 := sumLen_le ts (a.toNat + 1)
        simp only [Option.getD_some]
        omega
      · rw [List.getElem?_eq_none (by omega)]
        simp
    show ts.length + sumLen (ts.set a.toNat _) ≤ _
    omega
  · show ts.length + sumLen ts ≤ _
    omega
theorem i_TakePacket {B n c n1 c1 m d : Nat} {A A1 D : Option Addr} {ts : List (List Int)} {xs ys : List Int} (a tick first st sum time echo : Int) (w : World) (hB : B ≤ w.heap.size) (hx : TracksRd w B A n c ts) (hp : PacketRd w B A1 n1 c1 D m d xs ys) (hn : n + sumLen ts ≤ 1048576) :
    Calls Try.prog 109 #[.slice A n c, .agg #[.int .i64 a, .int .i64 tick, .int .i64 first, .slice A1 n1 c1, .slice D m d, .int .i64 st, .int .i64 sum, .int .i64 time, .int .i64 echo]] w fun e w' =>
      ∃ A' n' c', e = .returned (.tuple #[.slice A' n' c', .bool (takePacket ts (packetOk a tick first xs ys st sum time echo) a first xs m).2]) ∧ RowsIn true 56 3 w.heap.size w'.heap.size w' A' n' c' (takePacket ts (packetOk a tick first xs ys st sum time echo) a first xs m).1 ∧ n' + sumLen (takePacket ts (packetOk a tick first xs ys st sum time echo) a first xs m).1 ≤ 4194304 ∧ Below w.heap.size w w' := by
  have hl := takePacket_len (ok := packetOk a tick first xs ys st sum time echo) (a := a) (first := first) (xs := xs) (m := m) (ts := ts) (by rw [hx.len]; exact hn)
  rw [hx.len] at hl
  cases hk : takeOk ts (packetOk a tick first xs ys st sum time echo) m
  · have hg := takePacket_no (a := a) (first := first) (xs := xs) hk
    rw [hg] at hl ⊢
    refine (i_TakePacket_no a tick first st sum time echo w hB hx hp hn hk).mono ?_
    rintro e w' ⟨A', c', he, hi, hb⟩
    exact ⟨A', n, c', he, hi, hl, hb⟩
  · have hk' := hk
    unfold takeOk at hk
    simp only [Bool.and_eq_true, decide_eq_true_eq] at hk
    obtain ⟨⟨h1, h2⟩, h3⟩ := hk
    have hpp := packetOk_parts h2
    have hmy := hp.2.len
    obtain ⟨k, rfl⟩ := Int.eq_ofNat_of_zero_le hpp.2.2.1.1
    have hak := hpp.2.2.1.2
    have jx : k < ts.length := by omega
    have e0 : ts.getD k [] = ts[k] := by rw [List.getD_eq_getElem?_getD, List.getElem?_eq_getElem jx]; rfl
    have hg : takePacket ts (packetOk k tick first xs ys st sum time echo) k first xs m = if (addInputs ts[k] first xs).2 = true then (ts.set k (addInputs ts[k] first xs).1, true) else (ts, false) := by
      unfold takePacket
      rw [hk', Int.toNat_natCast, e0]
      simp
    rw [hg] at hl ⊢
    refine (i_TakePacket_yes k tick first st sum time echo w hB hx hp hn h1 h2 (by rw [h3, hx.len]) jx _ rfl).mono ?_
    rintro e w' ⟨A', c', he, hi, hb⟩
    cases hok : (addInputs ts[k] first xs).2
    · rw [hok] at hl he hi
      exact ⟨A', n, c', he, hi, hl, hb⟩
    · rw [hok] at hl he hi
      exact ⟨A', n, c', he, hi, hl, hb⟩
theorem s_TakePacket {B n c n1 c1 m d : Nat} {A A1 D : Option Addr} {ts : List (List Int)} {xs ys : List Int} (a tick first st sum time echo : Int) (w : World) (hB : B ≤ w.heap.size) (hx : TracksRd w B A n c ts) (hp : PacketRd w B A1 n1 c1 D m d xs ys) (hn : n + sumLen ts ≤ 1048576) :
    Calls Try.prog 134 #[.slice A n c, .agg #[.int .i64 a, .int .i64 tick, .int .i64 first, .slice A1 n1 c1, .slice D m d, .int .i64 st, .int .i64 sum, .int .i64 time, .int .i64 echo]] w fun e w' =>
      ∃ A' n' c', e = .returned (.tuple #[.slice A' n' c', .bool (takePacket ts (packetOk a tick first xs ys st sum time echo) a first xs m).2]) ∧ RowsIn true 56 3 w.heap.size w'.heap.size w' A' n' c' (takePacket ts (packetOk a tick first xs ys st sum time echo) a first xs m).1 ∧ n' + sumLen (takePacket ts (packetOk a tick first xs ys st sum time echo) a first xs m).1 ≤ 4194304 ∧ Below w.heap.size w w' := by
  have hl := takePacket_len (ok := packetOk a tick first xs ys st sum time echo) (a := a) (first := first) (xs := xs) (m := m) (ts := ts) (by rw [hx.len]; exact hn)
  rw [hx.len] at hl
  cases hk : takeOk ts (packetOk a tick first xs ys st sum time echo) m
  · have hg := takePacket_no (a := a) (first := first) (xs := xs) hk
    rw [hg] at hl ⊢
    refine (s_TakePacket_no a tick first st sum time echo w hB hx hp hn hk).mono ?_
    rintro e w' ⟨A', c', he, hi, hb⟩
    exact ⟨A', n, c', he, hi, hl, hb⟩
  · have hk' := hk
    unfold takeOk at hk
    simp only [Bool.and_eq_true, decide_eq_true_eq] at hk
    obtain ⟨⟨h1, h2⟩, h3⟩ := hk
    have hpp := packetOk_parts h2
    have hmy := hp.2.len
    obtain ⟨k, rfl⟩ := Int.eq_ofNat_of_zero_le hpp.2.2.1.1
    have hak := hpp.2.2.1.2
    have jx : k < ts.length := by omega
    have e0 : ts.getD k [] = ts[k] := by rw [List.getD_eq_getElem?_getD, List.getElem?_eq_getElem jx]; rfl
    have hg : takePacket ts (packetOk k tick first xs ys st sum time echo) k first xs m = if (addInputs ts[k] first xs).2 = true then (ts.set k (addInputs ts[k] first xs).1, true) else (ts, false) := by
      unfold takePacket
      rw [hk', Int.toNat_natCast, e0]
      simp
    rw [hg] at hl ⊢
    refine (s_TakePacket_yes k tick first st sum time echo w hB hx hp hn h1 h2 (by rw [h3, hx.len]) jx _ rfl).mono ?_
    rintro e w' ⟨A', c', he, hi, hb⟩
    cases hok : (addInputs ts[k] first xs).2
    · rw [hok] at hl he hi
      exact ⟨A', n, c', he, hi, hl, hb⟩
    · rw [hok] at hl he hi
      exact ⟨A', n, c', he, hi, hl, hb⟩
end Go.Proofs.Ytoolhhgfeklhcaa
