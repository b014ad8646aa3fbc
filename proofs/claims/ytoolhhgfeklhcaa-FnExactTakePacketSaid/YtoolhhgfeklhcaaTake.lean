/- What is proved: the contract of TakePacket, program and reference alike.
   Conditions: none beyond those that each lemma names. -/
import Derived.Test.YtoolhhgfeklhcaaCpy
import Derived.Test.YtoolhhgfeklhcaaAddS
import Derived.Test.YtoolhhgfeklhcaaPktH
import Derived.Test.YtoolhhgfeklhcaaHelp
import Derived.Test.YtoolhhgfeklhcaaHelp



import Derived.Test.YtoolhhgfeklhcaaPkt
import Derived.Test.YtoolhhgfeklhcaaPktP


import Derived.Deep.RegionHeld3
namespace Go.Proofs.Ytoolhhgfeklhcaa
open Go.RowKit

def takeOk (ts : List (List Int)) (ok : Bool) (m : Nat) : Bool := tracksOk ts && ok && decide (m = ts.length)
def takePacket (ts : List (List Int)) (ok : Bool) (a first : Int) (xs : List Int) (m : Nat) : List (List Int) × Bool :=
  if takeOk ts ok m = true ∧ (addInputs (ts.getD a.toNat []) first xs).2 = true then (ts.set a.toNat (addInputs (ts.getD a.toNat []) first xs).1, true) else (ts, false)
theorem takePacket_no {ts : List (List Int)} {ok : Bool} {a first : Int} {xs : List Int} {m : Nat} (h : takeOk ts ok m = false) : takePacket ts ok a first xs m = (ts, false) := if_neg (by simp [h])

set_option maxHeartbeats 1600000 in
theorem i_TakePacket_no {B n c n1 c1 m d : Nat} {A A1 D : Option Addr} {ts : List (List Int)} {xs ys : List Int} (a tick first st sum time echo : Int) (w : World) (hB : B ≤ w.heap.size) (hx : TracksRd w B A n c ts) (hp : PacketRd w B A1 n1 c1 D m d xs ys) (hn : n + sumLen ts ≤ 1048576) (hno : takeOk ts (packetOk a tick first xs ys st sum time echo) m = false) :
    Calls Try.prog 109 #[.slice A n c, .agg #[.int .i64 a, .int .i64 tick, .int .i64 first, .slice A1 n1 c1, .slice D m d, .int .i64 st, .int .i64 sum, .int .i64 time, .int .i64 echo]] w fun e w' => ∃ A' c', e = .returned (.tuple #[.slice A' n c', .bool false]) ∧ RowsIn true 56 3 w.heap.size w'.heap.size w' A' n c' ts ∧ Below w.heap.size w w' := by
  have lx := hx.len
  have hcs : tracksOk ts = false ∨ (tracksOk ts = true ∧ packetOk a tick first xs ys st sum time echo = false) ∨ (tracksOk ts = true ∧ packetOk a tick first xs ys st sum time echo = true ∧ m ≠ n) := by
    unfold takeOk at hno
    rw [lx] at hno
    cases h1 : tracksOk ts <;> cases h2 : packetOk a tick first xs ys st sum time echo <;> simp_all
  obtain ⟨_, _⟩ := hx.le
  have HX := Lib.hid (hx.alloc hB (.cells #[.int .i64 a, .int .i64 tick, .int .i64 first, .slice A1 n1 c1, .slice D m d, .int .i64 st, .int .i64 sum, .int .i64 time, .int .i64 echo] 63))
  have HP := Lib.hid (hp.alloc hB (.cells #[.int .i64 a, .int .i64 tick, .int .i64 first, .slice A1 n1 c1, .slice D m d, .int .i64 st, .int .i64 sum, .int .i64 time, .int .i64 echo] 63))
  have K0 := Lib.hid (Blk.new w 63 #[.int .i64 a, .int .i64 tick, .int .i64 first, .slice A1 n1 c1, .slice D m d, .int .i64 st, .int .i64 sum, .int .i64 time, .int .i64 echo])
  have H0 := below1 w (.cells #[.int .i64 a, .int .i64 tick, .int .i64 first, .slice A1 n1 c1, .slice D m d, .int .i64 st, .int .i64 sum, .int .i64 time, .int .i64 echo] 63)
  clear hx hp hno lx
  rcases hcs with h1 | ⟨h1, h2⟩ | ⟨h1, h2, h3⟩
  all_goals
    go_enter Try.func109, Try.ntmps109
    go_wp2_with fail
    refine (i_copyTracks _ (by simp; omega) HX.out hn).mono ?_
    rintro e w1 ⟨A2, c2, rfl, rows, hb1⟩
    have hs1 : w.heap.size < w1.heap.size := by have := hb1.size; simp at this; omega
    have k1 := K0.out.below hb1 (by simp)
    have B1 := H0.trans (hb1.mono (by simp))
    have hx1 := HX.out.below hb1 (by simp; omega)
    have hp1 := HP.out.below hb1 (by simp; omega)
    have ROWS := Lib.hid (rows.wider (lo' := w.heap.size) (by simp) (Nat.le_refl _))
    clear rows hb1
    go_wp2_with fail
    refine (i_TracksOk _ (by omega) hx1).mono ?_
    rw [h1]
    rintro e w2 ⟨rfl, hb2⟩
    have hs2 : w.heap.size < w2.heap.size := Nat.lt_of_lt_of_le hs1 hb2.size
    have k2 := k1.below hb2 hs1
    have B2 := Lib.hid (B1.trans (hb2.mono B1.size))
    have hp2 := hp1.below hb2 (by omega)
    have R2 := Lib.hid ((ROWS.out.below hb2 (Nat.le_refl _)).wider (Nat.le_refl _) hb2.size)
    have c0 := k2.cell 0
    have c1' := k2.cell 1
    have c2' := k2.cell 2
    have c3 := k2.cell 3
    have c4 := k2.cell 4
    have c5 := k2.cell 5
    have c6 := k2.cell 6
    have c7 := k2.cell 7
    have c8 := k2.cell 8
    simp at c0 c1' c2' c3 c4 c5 c6 c7 c8
    clear hb2 k2 k1 B1 hx1 hp1
    go_wp2_with (go_at_call 83; refine (i_PacketOk _ _ _ _ _ _ _ _ (by omega) hp2.1 hp2.2).mono ?_; rw [h2]; rintro e w3 ⟨rfl, rfl⟩)
    go_ret2
    exact ⟨A2, c2, rfl, by first | exact R2.out | exact (R2.out.alloc _).wider (Nat.le_refl _) (by simp), by first | exact B2.out | exact B2.out.alloc (by omega) _⟩
set_option maxHeartbeats 1600000 in
theorem s_TakePacket_no {B n c n1 c1 m d : Nat} {A A1 D : Option Addr} {ts : List (List Int)} {xs ys : List Int} (a tick first st sum time echo : Int) (w : World) (hB : B ≤ w.heap.size) (hx : TracksRd w B A n c ts) (hp : PacketRd w B A1 n1 c1 D m d xs ys) (hn : n + sumLen ts ≤ 1048576) (hno : takeOk ts (packetOk a tick first xs ys st sum time echo) m = false) :
    Calls Try.prog 134 #[.slice A n c, .agg #[.int .i64 a, .int .i64 tick, .int .i64 first, .slice A1 n1 c1, .slice D m d, .int .i64 st, .int .i64 sum, .int .i64 time, .int .i64 echo]] w fun e w' => ∃ A' c', e = .returned (.tuple #[.slice A' n c', .bool false]) ∧ RowsIn true 56 3 w.heap.size w'.heap.size w' A' n c' ts ∧ Below w.heap.size w w' := by
  have lx := hx.len
  have hcs : tracksOk ts = false ∨ (tracksOk ts = true ∧ packetOk a tick first xs ys st sum time echo = false) ∨ (tracksOk ts = true ∧ packetOk a tick first xs ys st sum time echo = true ∧ m ≠ n) := by
    unfold takeOk at hno
    rw [lx] at hno
    cases h1 : tracksOk ts <;> cases h2 : packetOk a tick first xs ys st sum time echo <;> simp_all
  obtain ⟨_, _⟩ := hx.le
  have HX := Lib.hid (hx.alloc hB (.cells #[.int .i64 a, .int .i64 tick, .int .i64 first, .slice A1 n1 c1, .slice D m d, .int .i64 st, .int .i64 sum, .int .i64 time, .int .i64 echo] 63))
  have HP := Lib.hid (hp.alloc hB (.cells #[.int .i64 a, .int .i64 tick, .int .i64 first, .slice A1 n1 c1, .slice D m d, .int .i64 st, .int .i64 sum, .int .i64 time, .int .i64 echo] 63))
  have K0 := Lib.hid (Blk.new w 63 #[.int .i64 a, .int .i64 tick, .int .i64 first, .slice A1 n1 c1, .slice D m d, .int .i64 st, .int .i64 sum, .int .i64 time, .int .i64 echo])
  have H0 := below1 w (.cells #[.int .i64 a, .int .i64 tick, .int .i64 first, .slice A1 n1 c1, .slice D m d, .int .i64 st, .int .i64 sum, .int .i64 time, .int .i64 echo] 63)
  clear hx hp hno lx
  rcases hcs with h1 | ⟨h1, h2⟩ | ⟨h1, h2, h3⟩
  all_goals
    go_enter Try.func134, Try.ntmps134
    go_wp2_with fail
    refine (s_l03CopyAll _ (by simp; omega) HX.out hn).mono ?_
    rintro e w1 ⟨A2, c2, rfl, rows, hb1⟩
    have hs1 : w.heap.size < w1.heap.size := by have := hb1.size; simp at this; omega
    have k1 := K0.out.below hb1 (by simp)
    have B1 := H0.trans (hb1.mono (by simp))
    have hx1 := HX.out.below hb1 (by simp; omega)
    have hp1 := HP.out.below hb1 (by simp; omega)
    have ROWS := Lib.hid (rows.wider (lo' := w.heap.size) (by simp) (Nat.le_refl _))
    clear rows hb1
    go_wp2_with fail
    refine (s_TracksOk _ (by omega) hx1).mono ?_
    rw [h1]
    rintro e w2 ⟨rfl, hb2⟩
    have hs2 : w.heap.size < w2.heap.size := Nat.lt_of_lt_of_le hs1 hb2.size
    have k2 := k1.below hb2 hs1
    have B2 := Lib.hid (B1.trans (hb2.mono B1.size))
    have hp2 := hp1.below hb2 (by omega)
    have R2 := Lib.hid ((ROWS.out.below hb2 (Nat.le_refl _)).wider (Nat.le_refl _) hb2.size)
    have c0 := k2.cell 0
    have c1' := k2.cell 1
    have c2' := k2.cell 2
    have c3 := k2.cell 3
    have c4 := k2.cell 4
    have c5 := k2.cell 5
    have c6 := k2.cell 6
    have c7 := k2.cell 7
    have c8 := k2.cell 8
    simp at c0 c1' c2' c3 c4 c5 c6 c7 c8
    clear hb2 k2 k1 B1 hx1 hp1
    go_wp2_with (go_at_call 81; refine (s_PacketOk _ _ _ _ _ _ _ _ (by omega) hp2.1 hp2.2).mono ?_; rw [h2]; rintro e w3 ⟨rfl, rfl⟩)
    go_ret2
    exact ⟨A2, c2, rfl, by first | exact R2.out | exact (R2.out.alloc _).wider (Nat.le_refl _) (by simp), by first | exact B2.out | exact B2.out.alloc (by omega) _⟩
theorem RowsIn.form {e e1 lo hi n c : Nat} {w : World} {A : Option Addr} {ts : List (List Int)} (h : RowsIn true e e1 lo hi w A n c ts) (hk : 0 < ts.length) : ∃ g, A = some ⟨g, 0, none⟩ ∧ lo ≤ g ∧ g < hi ∧ g < w.heap.size := by
  obtain ⟨fp, h1, _, h3⟩ := h
  obtain ⟨g, off, cur, f1, f2, f3, ck, hA, hz, hh, _, rfl, _, _, _⟩ := h1.elem hk
  rw [hz rfl] at hA
  exact ⟨g, hA, (h3 g (by simp)).1, (h3 g (by simp)).2, (Array.getElem?_eq_some_iff.1 hh).1⟩
set_option maxHeartbeats 3200000 in
theorem i_TakePacket_yes {B n c n1 c1 m d : Nat} {A A1 D : Option Addr} {ts : List (List Int)} {xs ys : List Int} (k : Nat) (tick first st sum time echo : Int) (w : World) (hB : B ≤ w.heap.size) (hx : TracksRd w B A n c ts) (hp : PacketRd w B A1 n1 c1 D m d xs ys) (hn : n + sumLen ts ≤ 1048576) (h1 : tracksOk ts = true) (h2 : packetOk k tick first xs ys st sum time echo = true) (h3 : m = n) (jx : k < ts.length) (ok : Bool) (hok : (addInputs ts[k] first xs).2 = ok) :
    Calls Try.prog 109 #[.slice A n c, .agg #[.int .i64 k, .int .i64 tick, .int .i64 first, .slice A1 n1 c1, .slice D m d, .int .i64 st, .int .i64 sum, .int .i64 time, .int .i64 echo]] w fun e w' => ∃ A' c', e = .returned (.tuple #[.slice A' n c', .bool ok]) ∧ RowsIn true 56 3 w.heap.size w'.heap.size w' A' n c' (if ok = true then ts.set k (addInputs ts[k] first xs).1 else ts) ∧ Below w.heap.size w w' := by
  have hn1 : n1 ≤ 1048576 := by have := (packetOk_parts h2).2.2.2.1; rw [hp.1.len] at this; omega
  have hsm := hx.small hn jx
  have HX0 := Lib.hid hx
  have lx := Lib.hid hx.len
  have hkn : k < n := by rw [← hx.len]; exact jx
  obtain ⟨_, _⟩ := hx.le
  have HX := Lib.hid (hx.alloc hB (.cells #[.int .i64 k, .int .i64 tick, .int .i64 first, .slice A1 n1 c1, .slice D m d, .int .i64 st, .int .i64 sum, .int .i64 time, .int .i64 echo] 63))
  have HP := Lib.hid (hp.alloc hB (.cells #[.int .i64 k, .int .i64 tick, .int .i64 first, .slice A1 n1 c1, .slice D m d, .int .i64 st, .int .i64 sum, .int .i64 time, .int .i64 echo] 63))
  have K0 := Lib.hid (Blk.new w 63 #[.int .i64 k, .int .i64 tick, .int .i64 first, .slice A1 n1 c1, .slice D m d, .int .i64 st, .int .i64 sum, .int .i64 time, .int .i64 echo])
  have H0 := below1 w (.cells #[.int .i64 k, .int .i64 tick, .int .i64 first, .slice A1 n1 c1, .slice D m d, .int .i64 st, .int .i64 sum, .int .i64 time, .int .i64 echo] 63)
  clear hx hp
  subst h3
  go_enter Try.func109, Try.ntmps109
  go_wp2_with fail
  refine (i_copyTracks _ (by simp; omega) HX.out hn).mono ?_
  rintro e w1 ⟨A2, c2, rfl, rows, hb1⟩
  have hs1 : w.heap.size < w1.heap.size := by have := hb1.size; simp at this; omega
  have k1 := K0.out.below hb1 (by simp)
  have B1 := H0.trans (hb1.mono (by simp))
  have hx1 := HX.out.below hb1 (by simp; omega)
  have hp1 := HP.out.below hb1 (by simp; omega)
  have ROWS := Lib.hid (rows.wider (lo' := w.heap.size) (by simp) (Nat.le_refl _))
  clear rows hb1
  go_wp2_with fail
  refine (i_TracksOk _ (by omega) hx1).mono ?_
  rw [h1]
  rintro e w2 ⟨rfl, hb2⟩
  have hs2 : w.heap.size < w2.heap.size := Nat.lt_of_lt_of_le hs1 hb2.size
  have k2 := k1.below hb2 hs1
  have B2 := Lib.hid (B1.trans (hb2.mono B1.size))
  have hp2 := hp1.below hb2 (by omega)
  have R2 := Lib.hid ((ROWS.out.below hb2 (Nat.le_refl _)).wider (Nat.le_refl _) hb2.size)
  have c0 := k2.cell 0
  have c1' := k2.cell 1
  have c2' := k2.cell 2
  have c3 := k2.cell 3
  have c4 := k2.cell 4
  have c5 := k2.cell 5
  have c6 := k2.cell 6
  have c7 := k2.cell 7
  have c8 := k2.cell 8
  simp at c0 c1' c2' c3 c4 c5 c6 c7 c8
  clear hb2 k2 k1 B1 hx1 hp1
  go_wp2_with (go_at_call 83; refine (i_PacketOk _ _ _ _ _ _ _ _ (by omega) hp2.1 hp2.2).mono ?_; rw [h2]; rintro e w3 ⟨rfl, rfl⟩)
  obtain ⟨w3, hw3⟩ : ∃ x, x = w2.alloc (.cells #[.int .i64 k, .int .i64 tick, .int .i64 first, .slice A1 n1 c1, .slice D m d, .int .i64 st, .int .i64 sum, .int .i64 time, .int .i64 echo] 63) := ⟨_, rfl⟩
  rw [← hw3]
  have B3 : Below w.heap.size w w3 := by rw [hw3]; exact B2.out.alloc (by omega) _
  have hs3 : w2.heap.size + 1 ≤ w3.heap.size := by rw [hw3]; simp
  have R3 : RowsIn true 56 3 w.heap.size w2.heap.size w3 A2 m c2 ts := by rw [hw3]; exact R2.out.alloc _
  have p3 : PacketRd w3 B A1 n1 c1 D m d xs ys := by rw [hw3]; exact hp2.alloc (by omega) _
  have e0 : w3.cell? ⟨w.heap.size, 0, none⟩ = some (.int .i64 k) := by rw [hw3, World.cell?_alloc_lt _ _ _ (by show w.heap.size < _; omega)]; exact c0
  have e2 : w3.cell? ⟨w.heap.size, 2, none⟩ = some (.int .i64 first) := by rw [hw3, World.cell?_alloc_lt _ _ _ (by show w.heap.size < _; omega)]; exact c2'
  have e3 : w3.cell? ⟨w.heap.size, 3, none⟩ = some (.slice A1 n1 c1) := by rw [hw3, World.cell?_alloc_lt _ _ _ (by show w.heap.size < _; omega)]; exact c3
  clear hw3 c0 c1' c2' c3 c4 c5 c6 c7 c8 hp2 h2
  obtain ⟨ad, Ak, ck, rfl, hab, hl, hr⟩ := (HX0.out.below B3 hB).at_ jx
  obtain ⟨g, rfl, hg1, hg2, hg3⟩ := R3.form (by omega)
  have hzz : w.heap.size < w3.heap.size := by omega
  generalize hu : ts[k] = u at *
  have HU := Lib.hid hu
  clear hu
  have hBd : B ≤ (w3.alloc (.cells #[.slice none 0 0] 56)).drew.heap.size := by show B ≤ (w3.alloc _).heap.size; simp; omega
  have hrd : IntsRd (w3.alloc (.cells #[.slice none 0 0] 56)).drew B Ak u.length ck u := hr.alloc (by omega) _
  have hpd : IntsRd (w3.alloc (.cells #[.slice none 0 0] 56)).drew B A1 n1 c1 xs := p3.1.alloc (by omega) _
  have hzd : w.heap.size < (w3.alloc (.cells #[.slice none 0 0] 56)).drew.heap.size := by show _ < (w3.alloc _).heap.size; simp; omega
  have hzn : w3.heap.size < (w3.alloc (.cells #[.slice none 0 0] 56)).drew.heap.size := by show _ < (w3.alloc _).heap.size; simp
  have had : (ad.add k).block < (w3.alloc (.cells #[.slice none 0 0] 56)).drew.heap.size := by rw [block_of_add]; show ad.block < (w3.alloc _).heap.size; simp; omega
  have had2 : (ad.add k).block < w3.heap.size := by rw [block_of_add]; omega
  go_region_held3 (fun w' => w'.cell? ⟨w.heap.size, 0, none⟩ = some (.int .i64 k) ∧ w'.cell? ⟨w.heap.size, 2, none⟩ = some (.int .i64 first) ∧ w'.cell? ⟨w.heap.size, 3, none⟩ = some (.slice A1 n1 c1) ∧ w'.cell? (ad.add k) = some (.slice Ak u.length ck))
    (first
      | go_keep
      | exact ⟨e0, e2, e3, hl⟩
      | exact ⟨f0, f2, f3, fl⟩
      | exact ⟨(World.cell?_alloc_lt w4 _ _ hz4).trans f0, (World.cell?_alloc_lt w4 _ _ hz4).trans f2, (World.cell?_alloc_lt w4 _ _ hz4).trans f3, (World.cell?_alloc_lt w4 _ _ had4).trans fl⟩
      | exact ⟨(World.cell?_setCell_other w4 ⟨w3.heap.size, 0, none⟩ _ _ (fun e => by have h := congrArg Addr.block e; simp [block_of_add] at h; omega)).trans f0, (World.cell?_setCell_other w4 ⟨w3.heap.size, 0, none⟩ _ _ (fun e => by have h := congrArg Addr.block e; simp [block_of_add] at h; omega)).trans f2, (World.cell?_setCell_other w4 ⟨w3.heap.size, 0, none⟩ _ _ (fun e => by have h := congrArg Addr.block e; simp [block_of_add] at h; omega)).trans f3, (World.cell?_setCell_other w4 ⟨w3.heap.size, 0, none⟩ _ _ (fun e => by have h := congrArg Addr.block e; simp [block_of_add] at h; omega)).trans fl⟩)
    (first
      | (go_at_call 89; refine (i_AddInputs first (w3.alloc (.cells #[.slice none 0 0] 56)).drew hBd hrd hpd hsm hn1).mono ?_; rintro e w4 ⟨A4, n4, c4', rfl, hin, hn4, hb4⟩; have f0 := (hb4.cell (p := ⟨w.heap.size, 0, none⟩) hzd).trans ((World.cell?_alloc_lt w3 _ _ hzz).trans e0); have f2 := (hb4.cell (p := ⟨w.heap.size, 2, none⟩) hzd).trans ((World.cell?_alloc_lt w3 _ _ hzz).trans e2); have f3 := (hb4.cell (p := ⟨w.heap.size, 3, none⟩) hzd).trans ((World.cell?_alloc_lt w3 _ _ hzz).trans e3); have fl := (hb4.cell (p := ad.add k) had).trans ((World.cell?_alloc_lt w3 _ _ had2).trans hl); have zb := Blk.below (w := (w3.alloc (.cells #[.slice none 0 0] 56)).drew) (Blk.new w3 56 #[.slice none 0 0]) hb4 hzn; have zc := zb.cell 0; have zf := zb.frozen 0; simp at zc; have ZB := Lib.hid zb; have HIN := Lib.hid hin; have hz4 : w.heap.size < w4.heap.size := Nat.lt_of_lt_of_le hzd hb4.size; have had4 : (ad.add k).block < w4.heap.size := Nat.lt_of_lt_of_le had hb4.size; have HB4 := Lib.hid hb4; clear zb hin hb4)
      | (go_at_call 89; refine (i_AddInputs first w3.drew (Nat.le_trans hB B3.size) hr p3.1 hsm hn1).mono ?_; rintro e w4 ⟨A4, n4, c4', rfl, hin, hn4, hb4⟩; have f0 := (hb4.cell (p := ⟨w.heap.size, 0, none⟩) hzz).trans e0; have f2 := (hb4.cell (p := ⟨w.heap.size, 2, none⟩) hzz).trans e2; have f3 := (hb4.cell (p := ⟨w.heap.size, 3, none⟩) hzz).trans e3; have fl := (hb4.cell (p := ad.add k) had2).trans hl; have HIN := Lib.hid hin; have hz4 : w.heap.size < w4.heap.size := Nat.lt_of_lt_of_le hzz hb4.size; have had4 : (ad.add k).block < w4.heap.size := Nat.lt_of_lt_of_le had2 hb4.size; have HB4 := Lib.hid hb4; clear hin hb4))
  all_goals
    have fin : ∃ (w5 : World) (t : Nat), (w5 = w4.setCell ⟨w3.heap.size, 0, none⟩ (.slice A4 n4 c4') ∧ t = w3.heap.size ∨ w5 = w4.alloc (.cells #[.slice A4 n4 c4'] 56) ∧ t = w4.heap.size) := ⟨_, _, Or.inr ⟨rfl, rfl⟩⟩
    clear fin
    first
    | (have zb := ZB.out
       have hb4 := HB4.out
       have R4 := RowsIn.below (w := (w3.alloc (.cells #[.slice none 0 0] 56)).drew) (R3.alloc _) hb4 (by show w2.heap.size ≤ (w3.alloc _).heap.size; simp; omega)
       have B4 := Below.trans ((B3.alloc (by omega) (.cells #[.slice none 0 0] 56)).drew) (hb4.mono (by show _ ≤ (w3.alloc _).heap.size; simp; omega))
       have hs4 : w3.heap.size + 1 ≤ w4.heap.size := by have h := hb4.size; have h2 : (w3.alloc (.cells #[.slice none 0 0] 56)).drew.heap.size = w3.heap.size + 1 := by show (w3.alloc _).heap.size = _; simp
                                                        omega
       have hin : IntsIn true 3 (w3.heap.size + 1) w4.heap.size w4 A4 n4 c4' _ := HIN.out.wider (by show w3.heap.size + 1 ≤ (w3.alloc _).heap.size; simp) (Nat.le_refl _)
       have ht := Touch.set w4 w3.heap.size 0 (.slice A4 n4 c4')
       have kt := (zb.set 0 (.slice A4 n4 c4')).cell 0
       simp only [List.setIfInBounds_toArray, List.set_cons_zero] at kt
       have R5 := R4.touch ht (by omega)
       have hin5 := hin.touch ht (by omega)
       have f05 := (ht.cell (p := ⟨w.heap.size, 0, none⟩) hz4 (by show w.heap.size < _ ∨ _ ≤ w.heap.size; omega)).trans f0
       have B5 := B4.trans (ht.below (by omega) B4.size)
       have hs5 := ht.size
       have hlo : w2.heap.size ≤ w3.heap.size + 1 := by omega
       clear zb hb4 R4 B4 hin ht ZB HB4 HIN zc zf f0 f2 f3 fl
       generalize hw5 : w4.setCell ⟨w3.heap.size, 0, none⟩ (.slice A4 n4 c4') = w5 at *
       clear hw5
       obtain ⟨⟨nv, hnv⟩, hnf, hng, -⟩ := R5.cell jx
       rw [Nat.zero_add] at hnv hnf
       have h5 : w2.heap.size ≤ w5.heap.size := by omega
       have R6 := Lib.hid (R5.wider (lo' := w.heap.size) (hi' := w5.heap.size) (Nat.le_refl _) h5)
       have R7 := Lib.hid (R5.set jx hin5 hlo (by omega) (by omega) (Nat.zero_add k).symm)
       have B6 := Lib.hid B5
       clear R5 hin5 B5 hl R3 p3 hr
       cases ok
       · go_wp2
         go_ret2
         exact ⟨_, _, rfl, R6.out, B6.out⟩
       · go_wp2
         go_ret2
         exact ⟨_, _, rfl, by rw [set_size, HU.out]; exact R7.out.wider (Nat.le_refl _) (by omega), B6.out.setCell (by show _ ≤ g; omega) _⟩)
    | (have hb4 := HB4.out
       have R4 := RowsIn.below (w := w3.drew) (R3.drew) hb4 (by show w2.heap.size ≤ w3.heap.size; omega)
       have B4 := Below.trans B3.drew (hb4.mono (by show _ ≤ w3.heap.size; omega))
       have hs4 : w3.heap.size ≤ w4.heap.size := hb4.size
       have hin : IntsIn true 3 w3.heap.size w4.heap.size w4 A4 n4 c4' _ := HIN.out
       have kt : (w4.alloc (.cells #[.slice A4 n4 c4'] 56)).cell? ⟨w4.heap.size, 0, none⟩ = some (.slice A4 n4 c4') := new_cell rfl
       have R5 := R4.alloc (.cells #[.slice A4 n4 c4'] 56)
       have hin5 := hin.alloc (.cells #[.slice A4 n4 c4'] 56)
       have f05 := (World.cell?_alloc_lt w4 (.cells #[.slice A4 n4 c4'] 56) _ hz4).trans f0
       have B5 := B4.alloc B4.size (.cells #[.slice A4 n4 c4'] 56)
       have hs5 : w4.heap.size ≤ (w4.alloc (.cells #[.slice A4 n4 c4'] 56)).heap.size := by simp
       have hlo : w2.heap.size ≤ w3.heap.size := by omega
       clear hb4 R4 B4 hin HB4 HIN f0 f2 f3 fl
       generalize hw5 : w4.alloc (.cells #[.slice A4 n4 c4'] 56) = w5 at *
       clear hw5
       obtain ⟨⟨nv, hnv⟩, hnf, hng, -⟩ := R5.cell jx
       rw [Nat.zero_add] at hnv hnf
       have h5 : w2.heap.size ≤ w5.heap.size := by omega
       have R6 := Lib.hid (R5.wider (lo' := w.heap.size) (hi' := w5.heap.size) (Nat.le_refl _) h5)
       have R7 := Lib.hid (R5.set jx hin5 hlo (by omega) (by omega) (Nat.zero_add k).symm)
       have B6 := Lib.hid B5
       clear R5 hin5 B5 hl R3 p3 hr
       cases ok
       · go_wp2
         go_ret2
         exact ⟨_, _, rfl, R6.out, B6.out⟩
       · go_wp2
         go_ret2
         exact ⟨_, _, rfl, by rw [set_size, HU.out]; exact R7.out.wider (Nat.le_refl _) (by omega), B6.out.setCell (by show _ ≤ g; omega) _⟩)
set_option maxHeartbeats 3200000 in
theorem s_TakePacket_yes {B n c n1 c1 m d : Nat} {A A1 D : Option Addr} {ts : List (List Int)} {xs ys : List Int} (k : Nat) (tick first st sum time echo : Int) (w : World) (hB : B ≤ w.heap.size) (hx : TracksRd w B A n c ts) (hp : PacketRd w B A1 n1 c1 D m d xs ys) (hn : n + sumLen ts ≤ 1048576) (h1 : tracksOk ts = true) (h2 : packetOk k tick first xs ys st sum time echo = true) (h3 : m = n) (jx : k < ts.length) (ok : Bool) (hok : (addInputs ts[k] first xs).2 = ok) :
    Calls Try.prog 134 #[.slice A n c, .agg #[.int .i64 k, .int .i64 tick, .int .i64 first, .slice A1 n1 c1, .slice D m d, .int .i64 st, .int .i64 sum, .int .i64 time, .int .i64 echo]] w fun e w' => ∃ A' c', e = .returned (.tuple #[.slice A' n c', .bool ok]) ∧ RowsIn true 56 3 w.heap.size w'.heap.size w' A' n c' (if ok = true then ts.set k (addInputs ts[k] first xs).1 else ts) ∧ Below w.heap.size w w' := by
  have hn1 : n1 ≤ 1048576 := by have := (packetOk_parts h2).2.2.2.1; rw [hp.1.len] at this; omega
  have hsm := hx.small hn jx
  have HX0 := Lib.hid hx
  have lx := Lib.hid hx.len
  have hkn : k < n := by rw [← hx.len]; exact jx
  obtain ⟨_, _⟩ := hx.le
  have HX := Lib.hid (hx.alloc hB (.cells #[.int .i64 k, .int .i64 tick, .int .i64 first, .slice A1 n1 c1, .slice D m d, .int .i64 st, .int .i64 sum, .int .i64 time, .int .i64 echo] 63))
  have HP := Lib.hid (hp.alloc hB (.cells #[.int .i64 k, .int .i64 tick, .int .i64 first, .slice A1 n1 c1, .slice D m d, .int .i64 st, .int .i64 sum, .int .i64 time, .int .i64 echo] 63))
  have K0 := Lib.hid (Blk.new w 63 #[.int .i64 k, .int .i64 tick, .int .i64 first, .slice A1 n1 c1, .slice D m d, .int .i64 st, .int .i64 sum, .int .i64 time, .int .i64 echo])
  have H0 := below1 w (.cells #[.int .i64 k, .int .i64 tick, .int .i64 first, .slice A1 n1 c1, .slice D m d, .int .i64 st, .int .i64 sum, .int .i64 time, .int .i64 echo] 63)
  clear hx hp
  subst h3
  go_enter Try.func134, Try.ntmps134
  go_wp2_with fail
  refine (s_l03CopyAll _ (by simp; omega) HX.out hn).mono ?_
  rintro e w1 ⟨A2, c2, rfl, rows, hb1⟩
  have hs1 : w.heap.size < w1.heap.size := by have := hb1.size; simp at this; omega
  have k1 := K0.out.below hb1 (by simp)
  have B1 := H0.trans (hb1.mono (by simp))
  have hx1 := HX.out.below hb1 (by simp; omega)
  have hp1 := HP.out.below hb1 (by simp; omega)
  have ROWS := Lib.hid (rows.wider (lo' := w.heap.size) (by simp) (Nat.le_refl _))
  clear rows hb1
  go_wp2_with fail
  refine (s_TracksOk _ (by omega) hx1).mono ?_
  rw [h1]
  rintro e w2 ⟨rfl, hb2⟩
  have hs2 : w.heap.size < w2.heap.size := Nat.lt_of_lt_of_le hs1 hb2.size
  have k2 := k1.below hb2 hs1
  have B2 := Lib.hid (B1.trans (hb2.mono B1.size))
  have hp2 := hp1.below hb2 (by omega)
  have R2 := Lib.hid ((ROWS.out.below hb2 (Nat.le_refl _)).wider (Nat.le_refl _) hb2.size)
  have c0 := k2.cell 0
  have c1' := k2.cell 1
  have c2' := k2.cell 2
  have c3 := k2.cell 3
  have c4 := k2.cell 4
  have c5 := k2.cell 5
  have c6 := k2.cell 6
  have c7 := k2.cell 7
  have c8 := k2.cell 8
  simp at c0 c1' c2' c3 c4 c5 c6 c7 c8
  clear hb2 k2 k1 B1 hx1 hp1
  go_wp2_with (go_at_call 81; refine (s_PacketOk _ _ _ _ _ _ _ _ (by omega) hp2.1 hp2.2).mono ?_; rw [h2]; rintro e w3 ⟨rfl, rfl⟩)
  obtain ⟨w3, hw3⟩ : ∃ x, x = w2.alloc (.cells #[.int .i64 k, .int .i64 tick, .int .i64 first, .slice A1 n1 c1, .slice D m d, .int .i64 st, .int .i64 sum, .int .i64 time, .int .i64 echo] 63) := ⟨_, rfl⟩
  rw [← hw3]
  have B3 : Below w.heap.size w w3 := by rw [hw3]; exact B2.out.alloc (by omega) _
  have hs3 : w2.heap.size + 1 ≤ w3.heap.size := by rw [hw3]; simp
  have R3 : RowsIn true 56 3 w.heap.size w2.heap.size w3 A2 m c2 ts := by rw [hw3]; exact R2.out.alloc _
  have p3 : PacketRd w3 B A1 n1 c1 D m d xs ys := by rw [hw3]; exact hp2.alloc (by omega) _
  have e0 : w3.cell? ⟨w.heap.size, 0, none⟩ = some (.int .i64 k) := by rw [hw3, World.cell?_alloc_lt _ _ _ (by show w.heap.size < _; omega)]; exact c0
  have e2 : w3.cell? ⟨w.heap.size, 2, none⟩ = some (.int .i64 first) := by rw [hw3, World.cell?_alloc_lt _ _ _ (by show w.heap.size < _; omega)]; exact c2'
  have e3 : w3.cell? ⟨w.heap.size, 3, none⟩ = some (.slice A1 n1 c1) := by rw [hw3, World.cell?_alloc_lt _ _ _ (by show w.heap.size < _; omega)]; exact c3
  clear hw3 c0 c1' c2' c3 c4 c5 c6 c7 c8 hp2 h2
  obtain ⟨ad, Ak, ck, rfl, hab, hl, hr⟩ := (HX0.out.below B3 hB).at_ jx
  obtain ⟨g, rfl, hg1, hg2, hg3⟩ := R3.form (by omega)
  have hzz : w.heap.size < w3.heap.size := by omega
  generalize hu : ts[k] = u at *
  have HU := Lib.hid hu
  clear hu
  have hBd : B ≤ (w3.alloc (.cells #[.slice none 0 0] 56)).drew.heap.size := by show B ≤ (w3.alloc _).heap.size; simp; omega
  have hrd : IntsRd (w3.alloc (.cells #[.slice none 0 0] 56)).drew B Ak u.length ck u := hr.alloc (by omega) _
  have hpd : IntsRd (w3.alloc (.cells #[.slice none 0 0] 56)).drew B A1 n1 c1 xs := p3.1.alloc (by omega) _
  have hzd : w.heap.size < (w3.alloc (.cells #[.slice none 0 0] 56)).drew.heap.size := by show _ < (w3.alloc _).heap.size; simp; omega
  have hzn : w3.heap.size < (w3.alloc (.cells #[.slice none 0 0] 56)).drew.heap.size := by show _ < (w3.alloc _).heap.size; simp
  have had : (ad.add k).block < (w3.alloc (.cells #[.slice none 0 0] 56)).drew.heap.size := by rw [block_of_add]; show ad.block < (w3.alloc _).heap.size; simp; omega
  have had2 : (ad.add k).block < w3.heap.size := by rw [block_of_add]; omega
  go_region_held3 (fun w' => w'.cell? ⟨w.heap.size, 0, none⟩ = some (.int .i64 k) ∧ w'.cell? ⟨w.heap.size, 2, none⟩ = some (.int .i64 first) ∧ w'.cell? ⟨w.heap.size, 3, none⟩ = some (.slice A1 n1 c1) ∧ w'.cell? (ad.add k) = some (.slice Ak u.length ck))
    (first
      | go_keep
      | exact ⟨e0, e2, e3, hl⟩
      | exact ⟨f0, f2, f3, fl⟩
      | exact ⟨(World.cell?_alloc_lt w4 _ _ hz4).trans f0, (World.cell?_alloc_lt w4 _ _ hz4).trans f2, (World.cell?_alloc_lt w4 _ _ hz4).trans f3, (World.cell?_alloc_lt w4 _ _ had4).trans fl⟩
      | exact ⟨(World.cell?_setCell_other w4 ⟨w3.heap.size, 0, none⟩ _ _ (fun e => by have h := congrArg Addr.block e; simp [block_of_add] at h; omega)).trans f0, (World.cell?_setCell_other w4 ⟨w3.heap.size, 0, none⟩ _ _ (fun e => by have h := congrArg Addr.block e; simp [block_of_add] at h; omega)).trans f2, (World.cell?_setCell_other w4 ⟨w3.heap.size, 0, none⟩ _ _ (fun e => by have h := congrArg Addr.block e; simp [block_of_add] at h; omega)).trans f3, (World.cell?_setCell_other w4 ⟨w3.heap.size, 0, none⟩ _ _ (fun e => by have h := congrArg Addr.block e; simp [block_of_add] at h; omega)).trans fl⟩)
    (first
      | (go_at_call 88; refine (s_AddInputs first (w3.alloc (.cells #[.slice none 0 0] 56)).drew hBd hrd hpd hsm hn1).mono ?_; rintro e w4 ⟨A4, n4, c4', rfl, hin, hn4, hb4⟩; have f0 := (hb4.cell (p := ⟨w.heap.size, 0, none⟩) hzd).trans ((World.cell?_alloc_lt w3 _ _ hzz).trans e0); have f2 := (hb4.cell (p := ⟨w.heap.size, 2, none⟩) hzd).trans ((World.cell?_alloc_lt w3 _ _ hzz).trans e2); have f3 := (hb4.cell (p := ⟨w.heap.size, 3, none⟩) hzd).trans ((World.cell?_alloc_lt w3 _ _ hzz).trans e3); have fl := (hb4.cell (p := ad.add k) had).trans ((World.cell?_alloc_lt w3 _ _ had2).trans hl); have zb := Blk.below (w := (w3.alloc (.cells #[.slice none 0 0] 56)).drew) (Blk.new w3 56 #[.slice none 0 0]) hb4 hzn; have zc := zb.cell 0; have zf := zb.frozen 0; simp at zc; have ZB := Lib.hid zb; have HIN := Lib.hid hin; have hz4 : w.heap.size < w4.heap.size := Nat.lt_of_lt_of_le hzd hb4.size; have had4 : (ad.add k).block < w4.heap.size := Nat.lt_of_lt_of_le had hb4.size; have HB4 := Lib.hid hb4; clear zb hin hb4)
      | (go_at_call 88; refine (s_AddInputs first w3.drew (Nat.le_trans hB B3.size) hr p3.1 hsm hn1).mono ?_; rintro e w4 ⟨A4, n4, c4', rfl, hin, hn4, hb4⟩; have f0 := (hb4.cell (p := ⟨w.heap.size, 0, none⟩) hzz).trans e0; have f2 := (hb4.cell (p := ⟨w.heap.size, 2, none⟩) hzz).trans e2; have f3 := (hb4.cell (p := ⟨w.heap.size, 3, none⟩) hzz).trans e3; have fl := (hb4.cell (p := ad.add k) had2).trans hl; have HIN := Lib.hid hin; have hz4 : w.heap.size < w4.heap.size := Nat.lt_of_lt_of_le hzz hb4.size; have had4 : (ad.add k).block < w4.heap.size := Nat.lt_of_lt_of_le had2 hb4.size; have HB4 := Lib.hid hb4; clear hin hb4))
  all_goals
    have fin : ∃ (w5 : World) (t : Nat), (w5 = w4.setCell ⟨w3.heap.size, 0, none⟩ (.slice A4 n4 c4') ∧ t = w3.heap.size ∨ w5 = w4.alloc (.cells #[.slice A4 n4 c4'] 56) ∧ t = w4.heap.size) := ⟨_, _, Or.inr ⟨rfl, rfl⟩⟩
    clear fin
    first
    | (have zb := ZB.out
       have hb4 := HB4.out
       have R4 := RowsIn.below (w := (w3.alloc (.cells #[.slice none 0 0] 56)).drew) (R3.alloc _) hb4 (by show w2.heap.size ≤ (w3.alloc _).heap.size; simp; omega)
       have B4 := Below.trans ((B3.alloc (by omega) (.cells #[.slice none 0 0] 56)).drew) (hb4.mono (by show _ ≤ (w3.alloc _).heap.size; simp; omega))
       have hs4 : w3.heap.size + 1 ≤ w4.heap.size := by have h := hb4.size; have h2 : (w3.alloc (.cells #[.slice none 0 0] 56)).drew.heap.size = w3.heap.size + 1 := by show (w3.alloc _).heap.size = _; simp
                                                        omega
       have hin : IntsIn true 3 (w3.heap.size + 1) w4.heap.size w4 A4 n4 c4' _ := HIN.out.wider (by show w3.heap.size + 1 ≤ (w3.alloc _).heap.size; simp) (Nat.le_refl _)
       have ht := Touch.set w4 w3.heap.size 0 (.slice A4 n4 c4')
       have kt := (zb.set 0 (.slice A4 n4 c4')).cell 0
       simp only [List.setIfInBounds_toArray, List.set_cons_zero] at kt
       have R5 := R4.touch ht (by omega)
       have hin5 := hin.touch ht (by omega)
       have f05 := (ht.cell (p := ⟨w.heap.size, 0, none⟩) hz4 (by show w.heap.size < _ ∨ _ ≤ w.heap.size; omega)).trans f0
       have B5 := B4.trans (ht.below (by omega) B4.size)
       have hs5 := ht.size
       have hlo : w2.heap.size ≤ w3.heap.size + 1 := by omega
       clear zb hb4 R4 B4 hin ht ZB HB4 HIN zc zf f0 f2 f3 fl
       generalize hw5 : w4.setCell ⟨w3.heap.size, 0, none⟩ (.slice A4 n4 c4') = w5 at *
       clear hw5
       obtain ⟨⟨nv, hnv⟩, hnf, hng, -⟩ := R5.cell jx
       rw [Nat.zero_add] at hnv hnf
       have h5 : w2.heap.size ≤ w5.heap.size := by omega
       have R6 := Lib.hid (R5.wider (lo' := w.heap.size) (hi' := w5.heap.size) (Nat.le_refl _) h5)
       have R7 := Lib.hid (R5.set jx hin5 hlo (by omega) (by omega) (Nat.zero_add k).symm)
       have B6 := Lib.hid B5
       clear R5 hin5 B5 hl R3 p3 hr
       cases ok
       · go_wp2
         go_ret2
         exact ⟨_, _, rfl, R6.out, B6.out⟩
       · go_wp2
         go_ret2
         exact ⟨_, _, rfl, by rw [set_size, HU.out]; exact R7.out.wider (Nat.le_refl _) (by omega), B6.out.setCell (by show _ ≤ g; omega) _⟩)
    | (have hb4 := HB4.out
       have R4 := RowsIn.below (w := w3.drew) (R3.drew) hb4 (by show w2.heap.size ≤ w3.heap.size; omega)
       have B4 := Below.trans B3.drew (hb4.mono (by show _ ≤ w3.heap.size; omega))
       have hs4 : w3.heap.size ≤ w4.heap.size := hb4.size
       have hin : IntsIn true 3 w3.heap.size w4.heap.size w4 A4 n4 c4' _ := HIN.out
       have kt : (w4.alloc (.cells #[.slice A4 n4 c4'] 56)).cell? ⟨w4.heap.size, 0, none⟩ = some (.slice A4 n4 c4') := new_cell rfl
       have R5 := R4.alloc (.cells #[.slice A4 n4 c4'] 56)
       have hin5 := hin.alloc (.cells #[.slice A4 n4 c4'] 56)
       have f05 := (World.cell?_alloc_lt w4 (.cells #[.slice A4 n4 c4'] 56) _ hz4).trans f0
       have B5 := B4.alloc B4.size (.cells #[.slice A4 n4 c4'] 56)
       have hs5 : w4.heap.size ≤ (w4.alloc (.cells #[.slice A4 n4 c4'] 56)).heap.size := by simp
       have hlo : w2.heap.size ≤ w3.heap.size := by omega
       clear hb4 R4 B4 hin HB4 HIN f0 f2 f3 fl
       generalize hw5 : w4.alloc (.cells #[.slice A4 n4 c4'] 56) = w5 at *
       clear hw5
       obtain ⟨⟨nv, hnv⟩, hnf, hng, -⟩ := R5.cell jx
       rw [Nat.zero_add] at hnv hnf
       have h5 : w2.heap.size ≤ w5.heap.size := by omega
       have R6 := Lib.hid (R5.wider (lo' := w.heap.size) (hi' := w5.heap.size) (Nat.le_refl _) h5)
       have R7 := Lib.hid (R5.set jx hin5 hlo (by omega) (by omega) (Nat.zero_add k).symm)
       have B6 := Lib.hid B5
       clear R5 hin5 B5 hl R3 p3 hr
       cases ok
       · go_wp2
         go_ret2
         exact ⟨_, _, rfl, R6.out, B6.out⟩
       · go_wp2
         go_ret2
         exact ⟨_, _, rfl, by rw [set_size, HU.out]; exact R7.out.wider (Nat.le_refl _) (by omega), B6.out.setCell (by show _ ≤ g; omega) _⟩)
end Go.Proofs.Ytoolhhgfeklhcaa
