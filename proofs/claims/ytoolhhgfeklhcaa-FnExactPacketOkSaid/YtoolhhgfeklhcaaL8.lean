/- What is proved: the statement on PacketOk: the program's function answers as the reference's, whatever the arguments.
   Conditions: none. -/
import Derived.Test.YtoolhhgfeklhcaaPktH
import Derived.Test.YtoolhhgfeklhcaaPkt
import Derived.Test.YtoolhhgfeklhcaaClosed
import Derived.Deep.RegionHeld3
namespace Go.Proofs.Ytoolhhgfeklhcaa
open Go.RowKit Go.ChangeShapes Go.WideShapes

theorem i_PacketOkB {B n c m d : Nat} {A D : Option Addr} {xs ys : List Int} (a tick first st sum time echo : Int) (w : World) (hB : B ≤ w.heap.size) (hx : PacketRd w B A n c D m d xs ys) :
    Calls Try.prog 83 #[.agg #[.int .i64 a, .int .i64 tick, .int .i64 first, .slice A n c, .slice D m d, .int .i64 st, .int .i64 sum, .int .i64 time, .int .i64 echo]] w fun e w' =>
      e = .returned (.bool (packetOk a tick first xs ys st sum time echo)) ∧ Below w.heap.size w w' :=
  (i_PacketOk a tick first st sum time echo w hB hx.1 hx.2).mono fun _ _ ⟨he, hw⟩ => ⟨he, by subst hw; exact below1 _ _⟩
theorem s_PacketOkB {B n c m d : Nat} {A D : Option Addr} {xs ys : List Int} (a tick first st sum time echo : Int) (w : World) (hB : B ≤ w.heap.size) (hx : PacketRd w B A n c D m d xs ys) :
    Calls Try.prog 81 #[.agg #[.int .i64 a, .int .i64 tick, .int .i64 first, .slice A n c, .slice D m d, .int .i64 st, .int .i64 sum, .int .i64 time, .int .i64 echo]] w fun e w' =>
      e = .returned (.bool (packetOk a tick first xs ys st sum time echo)) ∧ Below w.heap.size w w' :=
  (s_PacketOk a tick first st sum time echo w hB hx.1 hx.2).mono fun _ _ ⟨he, hw⟩ => ⟨he, by subst hw; exact below1 _ _⟩
set_option maxHeartbeats 3200000 in
theorem l_FnExactPacketOk {np0 cp0 mp0 dp0 : Nat} {Ap0 Dp0 : Option Addr} {xsp0 ysp0 : List Int} (ap0 tickp0 firstp0 stp0 sump0 timep0 echop0 : Int) (w : World) (h0 : PacketRd w w.heap.size Ap0 np0 cp0 Dp0 mp0 dp0 xsp0 ysp0) :
    Calls Try.prog 13 #[.agg #[.int .i64 ap0, .int .i64 tickp0, .int .i64 firstp0, .slice Ap0 np0 cp0, .slice Dp0 mp0 dp0, .int .i64 stp0, .int .i64 sump0, .int .i64 timep0, .int .i64 echop0]] w fun e w' => e = .returned (.bool true) ∧ Below w.heap.size w w' := by
  have hle_aP := h0.le
  have HB0 := Below.refl w.heap.size w
  go_enter Try.func13, Try.ntmps13
  go_wp2_with fail
  rcases Nat.lt_or_ge 1048576 (np0 + mp0) with g1 | g1
  · have hg1 : Hid (szI (np0 + mp0) 1048576 = -1) := if_pos (by omega)
    refine (lz_Packet _ _ ((HB0.alloc (by first | omega | (simp; omega) | simp) _).size) (h0.below (HB0.alloc (by first | omega | (simp; omega) | simp) _) (Nat.le_refl _)) (by omega) (by omega)).mono ?_
    rintro e w1 ⟨rfl, hb1⟩
    rw [hg1.out]
    have HB1 := (HB0.alloc (by first | omega | (simp; omega) | simp) _).trans (hb1.mono (HB0.alloc (by first | omega | (simp; omega) | simp) _).size)
    go_wp2_with fail
    go_ret
    exact ⟨rfl, HB1⟩
  have hg1 : Hid (szI (np0 + mp0) 1048576 = 1048576 - ((np0 + mp0 : Nat) : Int)) := by show szI _ _ = _; unfold szI; split <;> omega
  refine (lz_Packet _ _ ((HB0.alloc (by first | omega | (simp; omega) | simp) _).size) (h0.below (HB0.alloc (by first | omega | (simp; omega) | simp) _) (Nat.le_refl _)) (by omega) (by omega)).mono ?_
  rintro e w1 ⟨rfl, hb1⟩
  rw [hg1.out]
  have hs1 : w.heap.size + 1 ≤ w1.heap.size := by have := hb1.size; (try simp at this); omega
  have HB1 := (HB0.alloc (by first | omega | (simp; omega) | simp) _).trans (hb1.mono (HB0.alloc (by first | omega | (simp; omega) | simp) _).size)
  have kaP_0 : w1.cell? ⟨w.heap.size, 0, none⟩ = some (.int .i64 ap0) := (hb1.cell (p := ⟨w.heap.size, 0, none⟩) (by show w.heap.size < _; first | omega | (simp; omega) | simp)).trans (by simp)
  have kaP_1 : w1.cell? ⟨w.heap.size, 1, none⟩ = some (.int .i64 tickp0) := (hb1.cell (p := ⟨w.heap.size, 1, none⟩) (by show w.heap.size < _; first | omega | (simp; omega) | simp)).trans (by simp)
  have kaP_2 : w1.cell? ⟨w.heap.size, 2, none⟩ = some (.int .i64 firstp0) := (hb1.cell (p := ⟨w.heap.size, 2, none⟩) (by show w.heap.size < _; first | omega | (simp; omega) | simp)).trans (by simp)
  have kaP_3 : w1.cell? ⟨w.heap.size, 3, none⟩ = some (.slice Ap0 np0 cp0) := (hb1.cell (p := ⟨w.heap.size, 3, none⟩) (by show w.heap.size < _; first | omega | (simp; omega) | simp)).trans (by simp)
  have kaP_4 : w1.cell? ⟨w.heap.size, 4, none⟩ = some (.slice Dp0 mp0 dp0) := (hb1.cell (p := ⟨w.heap.size, 4, none⟩) (by show w.heap.size < _; first | omega | (simp; omega) | simp)).trans (by simp)
  have kaP_5 : w1.cell? ⟨w.heap.size, 5, none⟩ = some (.int .i64 stp0) := (hb1.cell (p := ⟨w.heap.size, 5, none⟩) (by show w.heap.size < _; first | omega | (simp; omega) | simp)).trans (by simp)
  have kaP_6 : w1.cell? ⟨w.heap.size, 6, none⟩ = some (.int .i64 sump0) := (hb1.cell (p := ⟨w.heap.size, 6, none⟩) (by show w.heap.size < _; first | omega | (simp; omega) | simp)).trans (by simp)
  have kaP_7 : w1.cell? ⟨w.heap.size, 7, none⟩ = some (.int .i64 timep0) := (hb1.cell (p := ⟨w.heap.size, 7, none⟩) (by show w.heap.size < _; first | omega | (simp; omega) | simp)).trans (by simp)
  have kaP_8 : w1.cell? ⟨w.heap.size, 8, none⟩ = some (.int .i64 echop0) := (hb1.cell (p := ⟨w.heap.size, 8, none⟩) (by show w.heap.size < _; first | omega | (simp; omega) | simp)).trans (by simp)
  have zzaP1 : w.heap.size < w1.heap.size := by omega
  go_wp2_with fail
  refine (lt_Packet _ (HB1.size) (h0.below HB1 (Nat.le_refl _)) (by omega)).mono ?_
  rintro e w2 ⟨A2, c2, D2, d2, rfl, O2, hb2⟩
  have hs2 : w1.heap.size ≤ w2.heap.size := by have := hb2.size; (try simp at this); omega
  have HB2 := HB1.trans (hb2.mono HB1.size)
  replace kaP_0 : w2.cell? ⟨w.heap.size, 0, none⟩ = some (.int .i64 ap0) := (hb2.cell (p := ⟨w.heap.size, 0, none⟩) (by show w.heap.size < _; first | omega | (simp; omega) | simp)).trans kaP_0
  replace kaP_1 : w2.cell? ⟨w.heap.size, 1, none⟩ = some (.int .i64 tickp0) := (hb2.cell (p := ⟨w.heap.size, 1, none⟩) (by show w.heap.size < _; first | omega | (simp; omega) | simp)).trans kaP_1
  replace kaP_2 : w2.cell? ⟨w.heap.size, 2, none⟩ = some (.int .i64 firstp0) := (hb2.cell (p := ⟨w.heap.size, 2, none⟩) (by show w.heap.size < _; first | omega | (simp; omega) | simp)).trans kaP_2
  replace kaP_3 : w2.cell? ⟨w.heap.size, 3, none⟩ = some (.slice Ap0 np0 cp0) := (hb2.cell (p := ⟨w.heap.size, 3, none⟩) (by show w.heap.size < _; first | omega | (simp; omega) | simp)).trans kaP_3
  replace kaP_4 : w2.cell? ⟨w.heap.size, 4, none⟩ = some (.slice Dp0 mp0 dp0) := (hb2.cell (p := ⟨w.heap.size, 4, none⟩) (by show w.heap.size < _; first | omega | (simp; omega) | simp)).trans kaP_4
  replace kaP_5 : w2.cell? ⟨w.heap.size, 5, none⟩ = some (.int .i64 stp0) := (hb2.cell (p := ⟨w.heap.size, 5, none⟩) (by show w.heap.size < _; first | omega | (simp; omega) | simp)).trans kaP_5
  replace kaP_6 : w2.cell? ⟨w.heap.size, 6, none⟩ = some (.int .i64 sump0) := (hb2.cell (p := ⟨w.heap.size, 6, none⟩) (by show w.heap.size < _; first | omega | (simp; omega) | simp)).trans kaP_6
  replace kaP_7 : w2.cell? ⟨w.heap.size, 7, none⟩ = some (.int .i64 timep0) := (hb2.cell (p := ⟨w.heap.size, 7, none⟩) (by show w.heap.size < _; first | omega | (simp; omega) | simp)).trans kaP_7
  replace kaP_8 : w2.cell? ⟨w.heap.size, 8, none⟩ = some (.int .i64 echop0) := (hb2.cell (p := ⟨w.heap.size, 8, none⟩) (by show w.heap.size < _; first | omega | (simp; omega) | simp)).trans kaP_8
  have zzaP2 : w.heap.size < w2.heap.size := by omega
  clear zzaP1
  go_wp2_with fail
  refine (s_PacketOkB _ _ _ _ _ _ _ _ (Nat.le_refl _) (O2).rdw).mono ?_
  rintro e w3 ⟨rfl, hb3⟩
  have hs3 : w2.heap.size ≤ w3.heap.size := by have := hb3.size; (try simp at this); omega
  have HB3 := HB2.trans (hb3.mono HB2.size)
  replace kaP_0 : w3.cell? ⟨w.heap.size, 0, none⟩ = some (.int .i64 ap0) := (hb3.cell (p := ⟨w.heap.size, 0, none⟩) (by show w.heap.size < _; first | omega | (simp; omega) | simp)).trans kaP_0
  replace kaP_1 : w3.cell? ⟨w.heap.size, 1, none⟩ = some (.int .i64 tickp0) := (hb3.cell (p := ⟨w.heap.size, 1, none⟩) (by show w.heap.size < _; first | omega | (simp; omega) | simp)).trans kaP_1
  replace kaP_2 : w3.cell? ⟨w.heap.size, 2, none⟩ = some (.int .i64 firstp0) := (hb3.cell (p := ⟨w.heap.size, 2, none⟩) (by show w.heap.size < _; first | omega | (simp; omega) | simp)).trans kaP_2
  replace kaP_3 : w3.cell? ⟨w.heap.size, 3, none⟩ = some (.slice Ap0 np0 cp0) := (hb3.cell (p := ⟨w.heap.size, 3, none⟩) (by show w.heap.size < _; first | omega | (simp; omega) | simp)).trans kaP_3
  replace kaP_4 : w3.cell? ⟨w.heap.size, 4, none⟩ = some (.slice Dp0 mp0 dp0) := (hb3.cell (p := ⟨w.heap.size, 4, none⟩) (by show w.heap.size < _; first | omega | (simp; omega) | simp)).trans kaP_4
  replace kaP_5 : w3.cell? ⟨w.heap.size, 5, none⟩ = some (.int .i64 stp0) := (hb3.cell (p := ⟨w.heap.size, 5, none⟩) (by show w.heap.size < _; first | omega | (simp; omega) | simp)).trans kaP_5
  replace kaP_6 : w3.cell? ⟨w.heap.size, 6, none⟩ = some (.int .i64 sump0) := (hb3.cell (p := ⟨w.heap.size, 6, none⟩) (by show w.heap.size < _; first | omega | (simp; omega) | simp)).trans kaP_6
  replace kaP_7 : w3.cell? ⟨w.heap.size, 7, none⟩ = some (.int .i64 timep0) := (hb3.cell (p := ⟨w.heap.size, 7, none⟩) (by show w.heap.size < _; first | omega | (simp; omega) | simp)).trans kaP_7
  replace kaP_8 : w3.cell? ⟨w.heap.size, 8, none⟩ = some (.int .i64 echop0) := (hb3.cell (p := ⟨w.heap.size, 8, none⟩) (by show w.heap.size < _; first | omega | (simp; omega) | simp)).trans kaP_8
  have zzaP3 : w.heap.size < w3.heap.size := by omega
  clear zzaP2
  go_wp2_with fail
  refine (lt_Packet _ (HB3.size) (h0.below HB3 (Nat.le_refl _)) (by omega)).mono ?_
  rintro e w4 ⟨A4, c4, D4, d4, rfl, O4, hb4⟩
  have hs4 : w3.heap.size ≤ w4.heap.size := by have := hb4.size; (try simp at this); omega
  have HB4 := HB3.trans (hb4.mono HB3.size)
  replace kaP_0 : w4.cell? ⟨w.heap.size, 0, none⟩ = some (.int .i64 ap0) := (hb4.cell (p := ⟨w.heap.size, 0, none⟩) (by show w.heap.size < _; first | omega | (simp; omega) | simp)).trans kaP_0
  replace kaP_1 : w4.cell? ⟨w.heap.size, 1, none⟩ = some (.int .i64 tickp0) := (hb4.cell (p := ⟨w.heap.size, 1, none⟩) (by show w.heap.size < _; first | omega | (simp; omega) | simp)).trans kaP_1
  replace kaP_2 : w4.cell? ⟨w.heap.size, 2, none⟩ = some (.int .i64 firstp0) := (hb4.cell (p := ⟨w.heap.size, 2, none⟩) (by show w.heap.size < _; first | omega | (simp; omega) | simp)).trans kaP_2
  replace kaP_3 : w4.cell? ⟨w.heap.size, 3, none⟩ = some (.slice Ap0 np0 cp0) := (hb4.cell (p := ⟨w.heap.size, 3, none⟩) (by show w.heap.size < _; first | omega | (simp; omega) | simp)).trans kaP_3
  replace kaP_4 : w4.cell? ⟨w.heap.size, 4, none⟩ = some (.slice Dp0 mp0 dp0) := (hb4.cell (p := ⟨w.heap.size, 4, none⟩) (by show w.heap.size < _; first | omega | (simp; omega) | simp)).trans kaP_4
  replace kaP_5 : w4.cell? ⟨w.heap.size, 5, none⟩ = some (.int .i64 stp0) := (hb4.cell (p := ⟨w.heap.size, 5, none⟩) (by show w.heap.size < _; first | omega | (simp; omega) | simp)).trans kaP_5
  replace kaP_6 : w4.cell? ⟨w.heap.size, 6, none⟩ = some (.int .i64 sump0) := (hb4.cell (p := ⟨w.heap.size, 6, none⟩) (by show w.heap.size < _; first | omega | (simp; omega) | simp)).trans kaP_6
  replace kaP_7 : w4.cell? ⟨w.heap.size, 7, none⟩ = some (.int .i64 timep0) := (hb4.cell (p := ⟨w.heap.size, 7, none⟩) (by show w.heap.size < _; first | omega | (simp; omega) | simp)).trans kaP_7
  replace kaP_8 : w4.cell? ⟨w.heap.size, 8, none⟩ = some (.int .i64 echop0) := (hb4.cell (p := ⟨w.heap.size, 8, none⟩) (by show w.heap.size < _; first | omega | (simp; omega) | simp)).trans kaP_8
  have zzaP4 : w.heap.size < w4.heap.size := by omega
  clear zzaP3
  go_wp2_with fail
  refine (i_PacketOkB _ _ _ _ _ _ _ _ (Nat.le_refl _) (O4.alloc _).rdw).mono ?_
  rintro e w5 ⟨rfl, hb5⟩
  have hs5 : w4.heap.size + 1 ≤ w5.heap.size := by have := hb5.size; (try simp at this); omega
  have HB5 := (HB4.alloc (by first | omega | (simp; omega) | simp) _).trans (hb5.mono (HB4.alloc (by first | omega | (simp; omega) | simp) _).size)
  replace O4 := (O4.alloc _).below hb5 (by first | omega | (simp; omega) | simp)
  replace kaP_0 : w5.cell? ⟨w.heap.size, 0, none⟩ = some (.int .i64 ap0) := (hb5.cell (p := ⟨w.heap.size, 0, none⟩) (by show w.heap.size < _; first | omega | (simp; omega) | simp)).trans ((World.cell?_alloc_lt _ _ _ (by show w.heap.size < _; first | omega | (simp; omega) | simp)).trans kaP_0)
  replace kaP_1 : w5.cell? ⟨w.heap.size, 1, none⟩ = some (.int .i64 tickp0) := (hb5.cell (p := ⟨w.heap.size, 1, none⟩) (by show w.heap.size < _; first | omega | (simp; omega) | simp)).trans ((World.cell?_alloc_lt _ _ _ (by show w.heap.size < _; first | omega | (simp; omega) | simp)).trans kaP_1)
  replace kaP_2 : w5.cell? ⟨w.heap.size, 2, none⟩ = some (.int .i64 firstp0) := (hb5.cell (p := ⟨w.heap.size, 2, none⟩) (by show w.heap.size < _; first | omega | (simp; omega) | simp)).trans ((World.cell?_alloc_lt _ _ _ (by show w.heap.size < _; first | omega | (simp; omega) | simp)).trans kaP_2)
  replace kaP_3 : w5.cell? ⟨w.heap.size, 3, none⟩ = some (.slice Ap0 np0 cp0) := (hb5.cell (p := ⟨w.heap.size, 3, none⟩) (by show w.heap.size < _; first | omega | (simp; omega) | simp)).trans ((World.cell?_alloc_lt _ _ _ (by show w.heap.size < _; first | omega | (simp; omega) | simp)).trans kaP_3)
  replace kaP_4 : w5.cell? ⟨w.heap.size, 4, none⟩ = some (.slice Dp0 mp0 dp0) := (hb5.cell (p := ⟨w.heap.size, 4, none⟩) (by show w.heap.size < _; first | omega | (simp; omega) | simp)).trans ((World.cell?_alloc_lt _ _ _ (by show w.heap.size < _; first | omega | (simp; omega) | simp)).trans kaP_4)
  replace kaP_5 : w5.cell? ⟨w.heap.size, 5, none⟩ = some (.int .i64 stp0) := (hb5.cell (p := ⟨w.heap.size, 5, none⟩) (by show w.heap.size < _; first | omega | (simp; omega) | simp)).trans ((World.cell?_alloc_lt _ _ _ (by show w.heap.size < _; first | omega | (simp; omega) | simp)).trans kaP_5)
  replace kaP_6 : w5.cell? ⟨w.heap.size, 6, none⟩ = some (.int .i64 sump0) := (hb5.cell (p := ⟨w.heap.size, 6, none⟩) (by show w.heap.size < _; first | omega | (simp; omega) | simp)).trans ((World.cell?_alloc_lt _ _ _ (by show w.heap.size < _; first | omega | (simp; omega) | simp)).trans kaP_6)
  replace kaP_7 : w5.cell? ⟨w.heap.size, 7, none⟩ = some (.int .i64 timep0) := (hb5.cell (p := ⟨w.heap.size, 7, none⟩) (by show w.heap.size < _; first | omega | (simp; omega) | simp)).trans ((World.cell?_alloc_lt _ _ _ (by show w.heap.size < _; first | omega | (simp; omega) | simp)).trans kaP_7)
  replace kaP_8 : w5.cell? ⟨w.heap.size, 8, none⟩ = some (.int .i64 echop0) := (hb5.cell (p := ⟨w.heap.size, 8, none⟩) (by show w.heap.size < _; first | omega | (simp; omega) | simp)).trans ((World.cell?_alloc_lt _ _ _ (by show w.heap.size < _; first | omega | (simp; omega) | simp)).trans kaP_8)
  have zzaP5 : w.heap.size < w5.heap.size := by omega
  clear zzaP4
  have kx0_0 : w5.cell? ⟨w4.heap.size, 0, none⟩ = some (.int .i64 ap0) := (hb5.cell (p := ⟨w4.heap.size, 0, none⟩) (by show w4.heap.size < _; first | omega | (simp; omega) | simp)).trans (by simp)
  have kx0_1 : w5.cell? ⟨w4.heap.size, 1, none⟩ = some (.int .i64 tickp0) := (hb5.cell (p := ⟨w4.heap.size, 1, none⟩) (by show w4.heap.size < _; first | omega | (simp; omega) | simp)).trans (by simp)
  have kx0_2 : w5.cell? ⟨w4.heap.size, 2, none⟩ = some (.int .i64 firstp0) := (hb5.cell (p := ⟨w4.heap.size, 2, none⟩) (by show w4.heap.size < _; first | omega | (simp; omega) | simp)).trans (by simp)
  have kx0_3 : w5.cell? ⟨w4.heap.size, 3, none⟩ = some (.slice A4 np0 c4) := (hb5.cell (p := ⟨w4.heap.size, 3, none⟩) (by show w4.heap.size < _; first | omega | (simp; omega) | simp)).trans (by simp)
  have kx0_4 : w5.cell? ⟨w4.heap.size, 4, none⟩ = some (.slice D4 mp0 d4) := (hb5.cell (p := ⟨w4.heap.size, 4, none⟩) (by show w4.heap.size < _; first | omega | (simp; omega) | simp)).trans (by simp)
  have kx0_5 : w5.cell? ⟨w4.heap.size, 5, none⟩ = some (.int .i64 stp0) := (hb5.cell (p := ⟨w4.heap.size, 5, none⟩) (by show w4.heap.size < _; first | omega | (simp; omega) | simp)).trans (by simp)
  have kx0_6 : w5.cell? ⟨w4.heap.size, 6, none⟩ = some (.int .i64 sump0) := (hb5.cell (p := ⟨w4.heap.size, 6, none⟩) (by show w4.heap.size < _; first | omega | (simp; omega) | simp)).trans (by simp)
  have kx0_7 : w5.cell? ⟨w4.heap.size, 7, none⟩ = some (.int .i64 timep0) := (hb5.cell (p := ⟨w4.heap.size, 7, none⟩) (by show w4.heap.size < _; first | omega | (simp; omega) | simp)).trans (by simp)
  have kx0_8 : w5.cell? ⟨w4.heap.size, 8, none⟩ = some (.int .i64 echop0) := (hb5.cell (p := ⟨w4.heap.size, 8, none⟩) (by show w4.heap.size < _; first | omega | (simp; omega) | simp)).trans (by simp)
  have zzx05 : w4.heap.size < w5.heap.size := by omega
  go_wp2_with fail
  have hxd := h0.below HB5.drew (Nat.le_refl _)
  go_region_held3 (fun w' => w'.cell? ⟨w4.heap.size, 0, none⟩ = some (.int .i64 ap0) ∧ w'.cell? ⟨w4.heap.size, 1, none⟩ = some (.int .i64 tickp0) ∧ w'.cell? ⟨w4.heap.size, 2, none⟩ = some (.int .i64 firstp0) ∧ w'.cell? ⟨w4.heap.size, 3, none⟩ = some (.slice A4 np0 c4) ∧ w'.cell? ⟨w4.heap.size, 4, none⟩ = some (.slice D4 mp0 d4) ∧ w'.cell? ⟨w4.heap.size, 5, none⟩ = some (.int .i64 stp0) ∧ w'.cell? ⟨w4.heap.size, 6, none⟩ = some (.int .i64 sump0) ∧ w'.cell? ⟨w4.heap.size, 7, none⟩ = some (.int .i64 timep0) ∧ w'.cell? ⟨w4.heap.size, 8, none⟩ = some (.int .i64 echop0) ∧ w'.cell? ⟨w.heap.size, 0, none⟩ = some (.int .i64 ap0) ∧ w'.cell? ⟨w.heap.size, 1, none⟩ = some (.int .i64 tickp0) ∧ w'.cell? ⟨w.heap.size, 2, none⟩ = some (.int .i64 firstp0) ∧ w'.cell? ⟨w.heap.size, 3, none⟩ = some (.slice Ap0 np0 cp0) ∧ w'.cell? ⟨w.heap.size, 4, none⟩ = some (.slice Dp0 mp0 dp0) ∧ w'.cell? ⟨w.heap.size, 5, none⟩ = some (.int .i64 stp0) ∧ w'.cell? ⟨w.heap.size, 6, none⟩ = some (.int .i64 sump0) ∧ w'.cell? ⟨w.heap.size, 7, none⟩ = some (.int .i64 timep0) ∧ w'.cell? ⟨w.heap.size, 8, none⟩ = some (.int .i64 echop0))
    (first
      | go_keep
      | exact ⟨kx0_0, kx0_1, kx0_2, kx0_3, kx0_4, kx0_5, kx0_6, kx0_7, kx0_8, kaP_0, kaP_1, kaP_2, kaP_3, kaP_4, kaP_5, kaP_6, kaP_7, kaP_8⟩
      | exact ⟨ekx0_0, ekx0_1, ekx0_2, ekx0_3, ekx0_4, ekx0_5, ekx0_6, ekx0_7, ekx0_8, ekaP_0, ekaP_1, ekaP_2, ekaP_3, ekaP_4, ekaP_5, ekaP_6, ekaP_7, ekaP_8⟩)
    (first
      | (go_at_call 82; refine (lt_Packet w5.drew HB5.size hxd (by omega)).mono ?_; rintro e w6 ⟨A6, c6, D6, d6, rfl, Oa, hba⟩; have hsa : w5.heap.size ≤ w6.heap.size := hba.size; have HBa := HB5.drew.trans (hba.mono HB5.size); have Ox := O4.drew.below hba (by show _ ≤ w5.heap.size; omega); have ekx0_0 : w6.cell? ⟨w4.heap.size, 0, none⟩ = some (.int .i64 ap0) := (hba.cell (p := ⟨w4.heap.size, 0, none⟩) (by show w4.heap.size < w5.heap.size; omega)).trans kx0_0; have ekx0_1 : w6.cell? ⟨w4.heap.size, 1, none⟩ = some (.int .i64 tickp0) := (hba.cell (p := ⟨w4.heap.size, 1, none⟩) (by show w4.heap.size < w5.heap.size; omega)).trans kx0_1; have ekx0_2 : w6.cell? ⟨w4.heap.size, 2, none⟩ = some (.int .i64 firstp0) := (hba.cell (p := ⟨w4.heap.size, 2, none⟩) (by show w4.heap.size < w5.heap.size; omega)).trans kx0_2; have ekx0_3 : w6.cell? ⟨w4.heap.size, 3, none⟩ = some (.slice A4 np0 c4) := (hba.cell (p := ⟨w4.heap.size, 3, none⟩) (by show w4.heap.size < w5.heap.size; omega)).trans kx0_3; have ekx0_4 : w6.cell? ⟨w4.heap.size, 4, none⟩ = some (.slice D4 mp0 d4) := (hba.cell (p := ⟨w4.heap.size, 4, none⟩) (by show w4.heap.size < w5.heap.size; omega)).trans kx0_4; have ekx0_5 : w6.cell? ⟨w4.heap.size, 5, none⟩ = some (.int .i64 stp0) := (hba.cell (p := ⟨w4.heap.size, 5, none⟩) (by show w4.heap.size < w5.heap.size; omega)).trans kx0_5; have ekx0_6 : w6.cell? ⟨w4.heap.size, 6, none⟩ = some (.int .i64 sump0) := (hba.cell (p := ⟨w4.heap.size, 6, none⟩) (by show w4.heap.size < w5.heap.size; omega)).trans kx0_6; have ekx0_7 : w6.cell? ⟨w4.heap.size, 7, none⟩ = some (.int .i64 timep0) := (hba.cell (p := ⟨w4.heap.size, 7, none⟩) (by show w4.heap.size < w5.heap.size; omega)).trans kx0_7; have ekx0_8 : w6.cell? ⟨w4.heap.size, 8, none⟩ = some (.int .i64 echop0) := (hba.cell (p := ⟨w4.heap.size, 8, none⟩) (by show w4.heap.size < w5.heap.size; omega)).trans kx0_8; have ekaP_0 : w6.cell? ⟨w.heap.size, 0, none⟩ = some (.int .i64 ap0) := (hba.cell (p := ⟨w.heap.size, 0, none⟩) (by show w.heap.size < w5.heap.size; omega)).trans kaP_0; have ekaP_1 : w6.cell? ⟨w.heap.size, 1, none⟩ = some (.int .i64 tickp0) := (hba.cell (p := ⟨w.heap.size, 1, none⟩) (by show w.heap.size < w5.heap.size; omega)).trans kaP_1; have ekaP_2 : w6.cell? ⟨w.heap.size, 2, none⟩ = some (.int .i64 firstp0) := (hba.cell (p := ⟨w.heap.size, 2, none⟩) (by show w.heap.size < w5.heap.size; omega)).trans kaP_2; have ekaP_3 : w6.cell? ⟨w.heap.size, 3, none⟩ = some (.slice Ap0 np0 cp0) := (hba.cell (p := ⟨w.heap.size, 3, none⟩) (by show w.heap.size < w5.heap.size; omega)).trans kaP_3; have ekaP_4 : w6.cell? ⟨w.heap.size, 4, none⟩ = some (.slice Dp0 mp0 dp0) := (hba.cell (p := ⟨w.heap.size, 4, none⟩) (by show w.heap.size < w5.heap.size; omega)).trans kaP_4; have ekaP_5 : w6.cell? ⟨w.heap.size, 5, none⟩ = some (.int .i64 stp0) := (hba.cell (p := ⟨w.heap.size, 5, none⟩) (by show w.heap.size < w5.heap.size; omega)).trans kaP_5; have ekaP_6 : w6.cell? ⟨w.heap.size, 6, none⟩ = some (.int .i64 sump0) := (hba.cell (p := ⟨w.heap.size, 6, none⟩) (by show w.heap.size < w5.heap.size; omega)).trans kaP_6; have ekaP_7 : w6.cell? ⟨w.heap.size, 7, none⟩ = some (.int .i64 timep0) := (hba.cell (p := ⟨w.heap.size, 7, none⟩) (by show w.heap.size < w5.heap.size; omega)).trans kaP_7; have ekaP_8 : w6.cell? ⟨w.heap.size, 8, none⟩ = some (.int .i64 echop0) := (hba.cell (p := ⟨w.heap.size, 8, none⟩) (by show w.heap.size < w5.heap.size; omega)).trans kaP_8)
      | (go_at_call 84; refine (le_Packet _ (Nat.le_refl _) Ox.rdw Oa.rdw).mono ?_; rintro e w7 ⟨rfl, hb7⟩; have hs7 : w5.heap.size ≤ w7.heap.size := Nat.le_trans hsa hb7.size; have HB7 := HBa.trans (hb7.mono HBa.size); have ekx0_0 : w7.cell? ⟨w4.heap.size, 0, none⟩ = some (.int .i64 ap0) := (hb7.cell (p := ⟨w4.heap.size, 0, none⟩) (by show w4.heap.size < _; omega)).trans ekx0_0; have ekx0_1 : w7.cell? ⟨w4.heap.size, 1, none⟩ = some (.int .i64 tickp0) := (hb7.cell (p := ⟨w4.heap.size, 1, none⟩) (by show w4.heap.size < _; omega)).trans ekx0_1; have ekx0_2 : w7.cell? ⟨w4.heap.size, 2, none⟩ = some (.int .i64 firstp0) := (hb7.cell (p := ⟨w4.heap.size, 2, none⟩) (by show w4.heap.size < _; omega)).trans ekx0_2; have ekx0_3 : w7.cell? ⟨w4.heap.size, 3, none⟩ = some (.slice A4 np0 c4) := (hb7.cell (p := ⟨w4.heap.size, 3, none⟩) (by show w4.heap.size < _; omega)).trans ekx0_3; have ekx0_4 : w7.cell? ⟨w4.heap.size, 4, none⟩ = some (.slice D4 mp0 d4) := (hb7.cell (p := ⟨w4.heap.size, 4, none⟩) (by show w4.heap.size < _; omega)).trans ekx0_4; have ekx0_5 : w7.cell? ⟨w4.heap.size, 5, none⟩ = some (.int .i64 stp0) := (hb7.cell (p := ⟨w4.heap.size, 5, none⟩) (by show w4.heap.size < _; omega)).trans ekx0_5; have ekx0_6 : w7.cell? ⟨w4.heap.size, 6, none⟩ = some (.int .i64 sump0) := (hb7.cell (p := ⟨w4.heap.size, 6, none⟩) (by show w4.heap.size < _; omega)).trans ekx0_6; have ekx0_7 : w7.cell? ⟨w4.heap.size, 7, none⟩ = some (.int .i64 timep0) := (hb7.cell (p := ⟨w4.heap.size, 7, none⟩) (by show w4.heap.size < _; omega)).trans ekx0_7; have ekx0_8 : w7.cell? ⟨w4.heap.size, 8, none⟩ = some (.int .i64 echop0) := (hb7.cell (p := ⟨w4.heap.size, 8, none⟩) (by show w4.heap.size < _; omega)).trans ekx0_8; have ekaP_0 : w7.cell? ⟨w.heap.size, 0, none⟩ = some (.int .i64 ap0) := (hb7.cell (p := ⟨w.heap.size, 0, none⟩) (by show w.heap.size < _; omega)).trans ekaP_0; have ekaP_1 : w7.cell? ⟨w.heap.size, 1, none⟩ = some (.int .i64 tickp0) := (hb7.cell (p := ⟨w.heap.size, 1, none⟩) (by show w.heap.size < _; omega)).trans ekaP_1; have ekaP_2 : w7.cell? ⟨w.heap.size, 2, none⟩ = some (.int .i64 firstp0) := (hb7.cell (p := ⟨w.heap.size, 2, none⟩) (by show w.heap.size < _; omega)).trans ekaP_2; have ekaP_3 : w7.cell? ⟨w.heap.size, 3, none⟩ = some (.slice Ap0 np0 cp0) := (hb7.cell (p := ⟨w.heap.size, 3, none⟩) (by show w.heap.size < _; omega)).trans ekaP_3; have ekaP_4 : w7.cell? ⟨w.heap.size, 4, none⟩ = some (.slice Dp0 mp0 dp0) := (hb7.cell (p := ⟨w.heap.size, 4, none⟩) (by show w.heap.size < _; omega)).trans ekaP_4; have ekaP_5 : w7.cell? ⟨w.heap.size, 5, none⟩ = some (.int .i64 stp0) := (hb7.cell (p := ⟨w.heap.size, 5, none⟩) (by show w.heap.size < _; omega)).trans ekaP_5; have ekaP_6 : w7.cell? ⟨w.heap.size, 6, none⟩ = some (.int .i64 sump0) := (hb7.cell (p := ⟨w.heap.size, 6, none⟩) (by show w.heap.size < _; omega)).trans ekaP_6; have ekaP_7 : w7.cell? ⟨w.heap.size, 7, none⟩ = some (.int .i64 timep0) := (hb7.cell (p := ⟨w.heap.size, 7, none⟩) (by show w.heap.size < _; omega)).trans ekaP_7; have ekaP_8 : w7.cell? ⟨w.heap.size, 8, none⟩ = some (.int .i64 echop0) := (hb7.cell (p := ⟨w.heap.size, 8, none⟩) (by show w.heap.size < _; omega)).trans ekaP_8))
  replace O4 := (O4.drew.below hba (by show _ ≤ w5.heap.size; omega)).below hb7 (by omega)
  replace kaP_0 : w7.cell? ⟨w.heap.size, 0, none⟩ = some (.int .i64 ap0) := (hb7.cell (p := ⟨w.heap.size, 0, none⟩) (by show w.heap.size < _; omega)).trans ((hba.cell (p := ⟨w.heap.size, 0, none⟩) (by show w.heap.size < w5.heap.size; omega)).trans kaP_0)
  replace kaP_1 : w7.cell? ⟨w.heap.size, 1, none⟩ = some (.int .i64 tickp0) := (hb7.cell (p := ⟨w.heap.size, 1, none⟩) (by show w.heap.size < _; omega)).trans ((hba.cell (p := ⟨w.heap.size, 1, none⟩) (by show w.heap.size < w5.heap.size; omega)).trans kaP_1)
  replace kaP_2 : w7.cell? ⟨w.heap.size, 2, none⟩ = some (.int .i64 firstp0) := (hb7.cell (p := ⟨w.heap.size, 2, none⟩) (by show w.heap.size < _; omega)).trans ((hba.cell (p := ⟨w.heap.size, 2, none⟩) (by show w.heap.size < w5.heap.size; omega)).trans kaP_2)
  replace kaP_3 : w7.cell? ⟨w.heap.size, 3, none⟩ = some (.slice Ap0 np0 cp0) := (hb7.cell (p := ⟨w.heap.size, 3, none⟩) (by show w.heap.size < _; omega)).trans ((hba.cell (p := ⟨w.heap.size, 3, none⟩) (by show w.heap.size < w5.heap.size; omega)).trans kaP_3)
  replace kaP_4 : w7.cell? ⟨w.heap.size, 4, none⟩ = some (.slice Dp0 mp0 dp0) := (hb7.cell (p := ⟨w.heap.size, 4, none⟩) (by show w.heap.size < _; omega)).trans ((hba.cell (p := ⟨w.heap.size, 4, none⟩) (by show w.heap.size < w5.heap.size; omega)).trans kaP_4)
  replace kaP_5 : w7.cell? ⟨w.heap.size, 5, none⟩ = some (.int .i64 stp0) := (hb7.cell (p := ⟨w.heap.size, 5, none⟩) (by show w.heap.size < _; omega)).trans ((hba.cell (p := ⟨w.heap.size, 5, none⟩) (by show w.heap.size < w5.heap.size; omega)).trans kaP_5)
  replace kaP_6 : w7.cell? ⟨w.heap.size, 6, none⟩ = some (.int .i64 sump0) := (hb7.cell (p := ⟨w.heap.size, 6, none⟩) (by show w.heap.size < _; omega)).trans ((hba.cell (p := ⟨w.heap.size, 6, none⟩) (by show w.heap.size < w5.heap.size; omega)).trans kaP_6)
  replace kaP_7 : w7.cell? ⟨w.heap.size, 7, none⟩ = some (.int .i64 timep0) := (hb7.cell (p := ⟨w.heap.size, 7, none⟩) (by show w.heap.size < _; omega)).trans ((hba.cell (p := ⟨w.heap.size, 7, none⟩) (by show w.heap.size < w5.heap.size; omega)).trans kaP_7)
  replace kaP_8 : w7.cell? ⟨w.heap.size, 8, none⟩ = some (.int .i64 echop0) := (hb7.cell (p := ⟨w.heap.size, 8, none⟩) (by show w.heap.size < _; omega)).trans ((hba.cell (p := ⟨w.heap.size, 8, none⟩) (by show w.heap.size < w5.heap.size; omega)).trans kaP_8)
  have zzaP7 : w.heap.size < w7.heap.size := by omega
  clear zzaP5
  replace kx0_0 : w7.cell? ⟨w4.heap.size, 0, none⟩ = some (.int .i64 ap0) := (hb7.cell (p := ⟨w4.heap.size, 0, none⟩) (by show w4.heap.size < _; omega)).trans ((hba.cell (p := ⟨w4.heap.size, 0, none⟩) (by show w4.heap.size < w5.heap.size; omega)).trans kx0_0)
  replace kx0_1 : w7.cell? ⟨w4.heap.size, 1, none⟩ = some (.int .i64 tickp0) := (hb7.cell (p := ⟨w4.heap.size, 1, none⟩) (by show w4.heap.size < _; omega)).trans ((hba.cell (p := ⟨w4.heap.size, 1, none⟩) (by show w4.heap.size < w5.heap.size; omega)).trans kx0_1)
  replace kx0_2 : w7.cell? ⟨w4.heap.size, 2, none⟩ = some (.int .i64 firstp0) := (hb7.cell (p := ⟨w4.heap.size, 2, none⟩) (by show w4.heap.size < _; omega)).trans ((hba.cell (p := ⟨w4.heap.size, 2, none⟩) (by show w4.heap.size < w5.heap.size; omega)).trans kx0_2)
  replace kx0_3 : w7.cell? ⟨w4.heap.size, 3, none⟩ = some (.slice A4 np0 c4) := (hb7.cell (p := ⟨w4.heap.size, 3, none⟩) (by show w4.heap.size < _; omega)).trans ((hba.cell (p := ⟨w4.heap.size, 3, none⟩) (by show w4.heap.size < w5.heap.size; omega)).trans kx0_3)
  replace kx0_4 : w7.cell? ⟨w4.heap.size, 4, none⟩ = some (.slice D4 mp0 d4) := (hb7.cell (p := ⟨w4.heap.size, 4, none⟩) (by show w4.heap.size < _; omega)).trans ((hba.cell (p := ⟨w4.heap.size, 4, none⟩) (by show w4.heap.size < w5.heap.size; omega)).trans kx0_4)
  replace kx0_5 : w7.cell? ⟨w4.heap.size, 5, none⟩ = some (.int .i64 stp0) := (hb7.cell (p := ⟨w4.heap.size, 5, none⟩) (by show w4.heap.size < _; omega)).trans ((hba.cell (p := ⟨w4.heap.size, 5, none⟩) (by show w4.heap.size < w5.heap.size; omega)).trans kx0_5)
  replace kx0_6 : w7.cell? ⟨w4.heap.size, 6, none⟩ = some (.int .i64 sump0) := (hb7.cell (p := ⟨w4.heap.size, 6, none⟩) (by show w4.heap.size < _; omega)).trans ((hba.cell (p := ⟨w4.heap.size, 6, none⟩) (by show w4.heap.size < w5.heap.size; omega)).trans kx0_6)
  replace kx0_7 : w7.cell? ⟨w4.heap.size, 7, none⟩ = some (.int .i64 timep0) := (hb7.cell (p := ⟨w4.heap.size, 7, none⟩) (by show w4.heap.size < _; omega)).trans ((hba.cell (p := ⟨w4.heap.size, 7, none⟩) (by show w4.heap.size < w5.heap.size; omega)).trans kx0_7)
  replace kx0_8 : w7.cell? ⟨w4.heap.size, 8, none⟩ = some (.int .i64 echop0) := (hb7.cell (p := ⟨w4.heap.size, 8, none⟩) (by show w4.heap.size < _; omega)).trans ((hba.cell (p := ⟨w4.heap.size, 8, none⟩) (by show w4.heap.size < w5.heap.size; omega)).trans kx0_8)
  have zzx07 : w4.heap.size < w7.heap.size := by omega
  clear zzx05
  clear ekx0_0
  clear ekx0_1
  clear ekx0_2
  clear ekx0_3
  clear ekx0_4
  clear ekx0_5
  clear ekx0_6
  clear ekx0_7
  clear ekx0_8
  clear ekaP_0
  clear ekaP_1
  clear ekaP_2
  clear ekaP_3
  clear ekaP_4
  clear ekaP_5
  clear ekaP_6
  clear ekaP_7
  clear ekaP_8
  clear hba Oa Ox hsa HBa hxd
  go_wp2_with fail
  go_ret
  exact ⟨rfl, HB7⟩

set_option maxRecDepth 100000 in
theorem FnExactPacketOk_lifted (os : Os) (started : os.Started) (H : Type) (enc : TypeId × Value → H) :
    ReturnsInHanded {} Try.checked os 13 .any (Rows.fnExactPacketOkSpec.pre6 enc Try.prog Try.f13 Rows.fnExactPacketOkRow.domain false) (Rows.fnExactPacketOkSpec.post enc Try.prog Try.f13 false true false false) := by
  refine law_lift (C := Try.checked) Try.own started (by kernel_rfl) Try.func13 Try.laidOut (by kernel_rfl) (tb := 4) rfl Try.underlying4 rfl ?_
    (ChangeSpec.witness6 (enc := enc) (C := Try.checked) false ⟨#[], #[.agg #[.int .i64 0, .int .i64 0, .int .i64 0, .slice none 0 0, .slice none 0 0, .int .i64 0, .int .i64 0, .int .i64 0, .int .i64 0]], []⟩ 8 (by kernel_rfl) (by kernel_rfl) (by kernel_rfl) (by kernel_rfl)) ?_
  · intro W vs ds ps hA
    have hA : DataW.TrodAll enc Try.prog W 0 (fun _ => true) true Try.f13.params.toList vs ds ps := hA
    rw [Try.params13] at hA
    obtain ⟨v0, vs0, d0, ds0, p0, q0, rfl, rfl, rfl, h0, r0⟩ := trodAll_cons hA
    obtain ⟨rfl, rfl, rfl⟩ := trodAll_nil r0
    rfl
  · intro W base args ds p hok0 hA hlt
    have hA : DataW.TrodAll enc Try.prog W 0 (fun _ => true) true Try.f13.params.toList args.toList ds p := hA
    have hok : ∀ (j : Nat) t v, Try.f13.params[j]? = some t → args[j]? = some v → Value.okWide Try.prog W .any base t v := hok0
    clear hok0
    rw [Try.params13] at hA hok
    obtain ⟨args⟩ := args
    obtain ⟨v0, vs0, d0, ds0, p0, q0, hv0, rfl, rfl, h0, r0⟩ := trodAll_cons hA
    have hv0 : args = v0 :: vs0 := hv0; subst hv0
    obtain ⟨rfl, rfl, rfl⟩ := trodAll_nil r0
    obtain ⟨cs0, y0, g0, rfl⟩ := open_val (T := packetT) (by kernel_rfl) (hok 0 _ _ rfl rfl) h0
    clear h0
    obtain ⟨n0_0, n0_1, n0_2, x0_3, x0_4, n0_5, n0_6, n0_7, n0_8⟩ := y0
    obtain ⟨_, _, rfl, ⟨rfl, b0_0⟩, ⟨_, _, rfl, ⟨rfl, b0_1⟩, ⟨_, _, rfl, ⟨rfl, b0_2⟩, ⟨_, _, rfl, ⟨A0_3, l0_3, c0_3, rfl, h0_3⟩, ⟨_, _, rfl, ⟨A0_4, l0_4, c0_4, rfl, h0_4⟩, ⟨_, _, rfl, ⟨rfl, b0_5⟩, ⟨_, _, rfl, ⟨rfl, b0_6⟩, ⟨_, _, rfl, ⟨rfl, b0_7⟩, ⟨rfl, b0_8⟩⟩⟩⟩⟩⟩⟩⟩⟩ := g0
    clear hok hA hlt
    exact l_FnExactPacketOk _ _ _ _ _ _ _ W ⟨h0_3, h0_4⟩

set_option maxHeartbeats 4000000 in
theorem FnExactPacketOk_closed : joinedFacts Try.prog 13 Try.f13 Rows.fnExactPacketOkSpec Rows.fnExactPacketOkRow = true := by
  simp only [joinedFacts, Bool.and_eq_true]
  exact ⟨⟨⟨⟨⟨⟨⟨⟨⟨⟨⟨⟨⟨⟨⟨⟨⟨⟨⟨⟨⟨⟨⟨⟨⟨⟨⟨⟨⟨⟨⟨(by as_aux_lemma => kernel_rfl), (by as_aux_lemma => kernel_rfl)⟩, (by as_aux_lemma => kernel_rfl)⟩, (by as_aux_lemma => kernel_rfl)⟩, (by as_aux_lemma => kernel_rfl)⟩, (by as_aux_lemma => kernel_rfl)⟩, (by as_aux_lemma => kernel_rfl)⟩, (by as_aux_lemma => kernel_rfl)⟩, (by as_aux_lemma => kernel_rfl)⟩, (by as_aux_lemma => kernel_rfl)⟩, (by as_aux_lemma => kernel_rfl)⟩, (by as_aux_lemma => kernel_rfl)⟩, (by as_aux_lemma => kernel_rfl)⟩, (by as_aux_lemma => kernel_rfl)⟩, (by as_aux_lemma => kernel_rfl)⟩, (by as_aux_lemma => kernel_rfl)⟩, (by as_aux_lemma => kernel_rfl)⟩, (by as_aux_lemma => kernel_rfl)⟩, (by as_aux_lemma => kernel_rfl)⟩, (by as_aux_lemma => kernel_rfl)⟩, (by as_aux_lemma => kernel_rfl)⟩, (by as_aux_lemma => kernel_rfl)⟩, (by as_aux_lemma => kernel_rfl)⟩, (by as_aux_lemma => kernel_rfl)⟩, (by as_aux_lemma => kernel_rfl)⟩, Try.mayEnter⟩, (lifted_of Try.liftsFinal)⟩, (made_of Try.make)⟩, (by as_aux_lemma => kernel_rfl)⟩, (by as_aux_lemma => kernel_rfl)⟩, (by as_aux_lemma => kernel_rfl)⟩, (by as_aux_lemma => kernel_rfl)⟩

theorem FnExactPacketOk_holds : Rows.FnExactPacketOkSaid :=
  OpenClaim.holds_of_wide 13 Try.f13 rfl rfl rfl rfl rfl rfl rfl ⟨rfl, rfl, rfl, rfl, rfl⟩ rfl rfl rfl rfl rfl (by kernel_rfl) Try.func13 FnExactPacketOk_closed
    (of_decide_eq_true (by kernel_rfl)) (by unfold Func.isWrapper; first | (rw [if_pos (by decide +kernel)]; kernel_rfl) | (rw [if_neg (by decide +kernel)]; exact ⟨rfl, rfl⟩))
    (fun os started H enc _ => FnExactPacketOk_lifted os started H enc)

end Go.Proofs.Ytoolhhgfeklhcaa
