/- What is proved: the statement on TakePacket: the program's function answers as the reference's, whatever the arguments.
   Conditions: none. -/
import Derived.Test.YtoolhhgfeklhcaaTakeJ
import Derived.Test.YtoolhhgfeklhcaaClosed
import Derived.Deep.RegionHeld3
namespace Go.Proofs.Ytoolhhgfeklhcaa
open Go.RowKit Go.ChangeShapes Go.WideShapes

set_option maxHeartbeats 3200000 in
theorem l_FnExactTakePacket {np0 cp0 : Nat} {Ap0 : Option Addr} {tsp0 : List (List Int)} {np1 cp1 mp1 dp1 : Nat} {Ap1 Dp1 : Option Addr} {xsp1 ysp1 : List Int} (ap1 tickp1 firstp1 stp1 sump1 timep1 echop1 : Int) (w : World) (h0 : TracksRd w w.heap.size Ap0 np0 cp0 tsp0) (h1 : PacketRd w w.heap.size Ap1 np1 cp1 Dp1 mp1 dp1 xsp1 ysp1) :
    Calls Try.prog 32 #[.slice Ap0 np0 cp0, .agg #[.int .i64 ap1, .int .i64 tickp1, .int .i64 firstp1, .slice Ap1 np1 cp1, .slice Dp1 mp1 dp1, .int .i64 stp1, .int .i64 sump1, .int .i64 timep1, .int .i64 echop1]] w fun e w' => e = .returned (.bool true) ∧ Below w.heap.size w w' := by
  have hle_aList := h0.le
  have hle_aP := h1.le
  have HB0 := Below.refl w.heap.size w
  go_enter Try.func32, Try.ntmps32
  go_wp2_with fail
  rcases Nat.lt_or_ge 1048576 (np0 + sumLen tsp0) with g1 | g1
  · have hg1 : Hid (szI (np0 + sumLen tsp0) 1048576 = -1) := if_pos (by omega)
    refine (lz_TrackS _ _ ((HB0.alloc (by first | omega | (simp; omega) | simp) _).size) (h0.below (HB0.alloc (by first | omega | (simp; omega) | simp) _) (Nat.le_refl _)) (by omega) (by omega)).mono ?_
    rintro e w1 ⟨rfl, hb1⟩
    rw [hg1.out]
    have HB1 := (HB0.alloc (by first | omega | (simp; omega) | simp) _).trans (hb1.mono (HB0.alloc (by first | omega | (simp; omega) | simp) _).size)
    go_wp2_with fail
    go_ret
    exact ⟨rfl, HB1⟩
  have hg1 : Hid (szI (np0 + sumLen tsp0) 1048576 = 1048576 - ((np0 + sumLen tsp0 : Nat) : Int)) := by show szI _ _ = _; unfold szI; split <;> omega
  refine (lz_TrackS _ _ ((HB0.alloc (by first | omega | (simp; omega) | simp) _).size) (h0.below (HB0.alloc (by first | omega | (simp; omega) | simp) _) (Nat.le_refl _)) (by omega) (by omega)).mono ?_
  rintro e w1 ⟨rfl, hb1⟩
  rw [hg1.out]
  have hs1 : w.heap.size + 1 ≤ w1.heap.size := by have := hb1.size; (try simp at this); omega
  have HB1 := (HB0.alloc (by first | omega | (simp; omega) | simp) _).trans (hb1.mono (HB0.alloc (by first | omega | (simp; omega) | simp) _).size)
  have kaP_0 : w1.cell? ⟨w.heap.size, 0, none⟩ = some (.int .i64 ap1) := (hb1.cell (p := ⟨w.heap.size, 0, none⟩) (by show w.heap.size < _; first | omega | (simp; omega) | simp)).trans (by simp)
  have kaP_1 : w1.cell? ⟨w.heap.size, 1, none⟩ = some (.int .i64 tickp1) := (hb1.cell (p := ⟨w.heap.size, 1, none⟩) (by show w.heap.size < _; first | omega | (simp; omega) | simp)).trans (by simp)
  have kaP_2 : w1.cell? ⟨w.heap.size, 2, none⟩ = some (.int .i64 firstp1) := (hb1.cell (p := ⟨w.heap.size, 2, none⟩) (by show w.heap.size < _; first | omega | (simp; omega) | simp)).trans (by simp)
  have kaP_3 : w1.cell? ⟨w.heap.size, 3, none⟩ = some (.slice Ap1 np1 cp1) := (hb1.cell (p := ⟨w.heap.size, 3, none⟩) (by show w.heap.size < _; first | omega | (simp; omega) | simp)).trans (by simp)
  have kaP_4 : w1.cell? ⟨w.heap.size, 4, none⟩ = some (.slice Dp1 mp1 dp1) := (hb1.cell (p := ⟨w.heap.size, 4, none⟩) (by show w.heap.size < _; first | omega | (simp; omega) | simp)).trans (by simp)
  have kaP_5 : w1.cell? ⟨w.heap.size, 5, none⟩ = some (.int .i64 stp1) := (hb1.cell (p := ⟨w.heap.size, 5, none⟩) (by show w.heap.size < _; first | omega | (simp; omega) | simp)).trans (by simp)
  have kaP_6 : w1.cell? ⟨w.heap.size, 6, none⟩ = some (.int .i64 sump1) := (hb1.cell (p := ⟨w.heap.size, 6, none⟩) (by show w.heap.size < _; first | omega | (simp; omega) | simp)).trans (by simp)
  have kaP_7 : w1.cell? ⟨w.heap.size, 7, none⟩ = some (.int .i64 timep1) := (hb1.cell (p := ⟨w.heap.size, 7, none⟩) (by show w.heap.size < _; first | omega | (simp; omega) | simp)).trans (by simp)
  have kaP_8 : w1.cell? ⟨w.heap.size, 8, none⟩ = some (.int .i64 echop1) := (hb1.cell (p := ⟨w.heap.size, 8, none⟩) (by show w.heap.size < _; first | omega | (simp; omega) | simp)).trans (by simp)
  have zzaP1 : w.heap.size < w1.heap.size := by omega
  go_wp2_with fail
  rcases Nat.lt_or_ge 1048576 (np0 + sumLen tsp0 + np1 + mp1) with g2 | g2
  · have hg2 : Hid (szI (np1 + mp1) (1048576 - (((np0 : Nat) : Int) + ((sumLen tsp0 : Nat) : Int))) = -1) := if_pos (by omega)
    refine (lz_Packet _ _ (HB1.size) (h1.below HB1 (Nat.le_refl _)) (by omega) (by omega)).mono ?_
    rintro e w2 ⟨rfl, hb2⟩
    rw [hg2.out]
    have HB2 := HB1.trans (hb2.mono HB1.size)
    go_wp2_with fail
    go_ret
    exact ⟨rfl, HB2⟩
  have hg2 : Hid (szI (np1 + mp1) (1048576 - (((np0 : Nat) : Int) + ((sumLen tsp0 : Nat) : Int))) = 1048576 - ((np0 + sumLen tsp0 + np1 + mp1 : Nat) : Int)) := by show szI _ _ = _; unfold szI; split <;> omega
  refine (lz_Packet _ _ (HB1.size) (h1.below HB1 (Nat.le_refl _)) (by omega) (by omega)).mono ?_
  rintro e w2 ⟨rfl, hb2⟩
  rw [hg2.out]
  have hs2 : w1.heap.size ≤ w2.heap.size := by have := hb2.size; (try simp at this); omega
  have HB2 := HB1.trans (hb2.mono HB1.size)
  replace kaP_0 : w2.cell? ⟨w.heap.size, 0, none⟩ = some (.int .i64 ap1) := (hb2.cell (p := ⟨w.heap.size, 0, none⟩) (by show w.heap.size < _; first | omega | (simp; omega) | simp)).trans kaP_0
  replace kaP_1 : w2.cell? ⟨w.heap.size, 1, none⟩ = some (.int .i64 tickp1) := (hb2.cell (p := ⟨w.heap.size, 1, none⟩) (by show w.heap.size < _; first | omega | (simp; omega) | simp)).trans kaP_1
  replace kaP_2 : w2.cell? ⟨w.heap.size, 2, none⟩ = some (.int .i64 firstp1) := (hb2.cell (p := ⟨w.heap.size, 2, none⟩) (by show w.heap.size < _; first | omega | (simp; omega) | simp)).trans kaP_2
  replace kaP_3 : w2.cell? ⟨w.heap.size, 3, none⟩ = some (.slice Ap1 np1 cp1) := (hb2.cell (p := ⟨w.heap.size, 3, none⟩) (by show w.heap.size < _; first | omega | (simp; omega) | simp)).trans kaP_3
  replace kaP_4 : w2.cell? ⟨w.heap.size, 4, none⟩ = some (.slice Dp1 mp1 dp1) := (hb2.cell (p := ⟨w.heap.size, 4, none⟩) (by show w.heap.size < _; first | omega | (simp; omega) | simp)).trans kaP_4
  replace kaP_5 : w2.cell? ⟨w.heap.size, 5, none⟩ = some (.int .i64 stp1) := (hb2.cell (p := ⟨w.heap.size, 5, none⟩) (by show w.heap.size < _; first | omega | (simp; omega) | simp)).trans kaP_5
  replace kaP_6 : w2.cell? ⟨w.heap.size, 6, none⟩ = some (.int .i64 sump1) := (hb2.cell (p := ⟨w.heap.size, 6, none⟩) (by show w.heap.size < _; first | omega | (simp; omega) | simp)).trans kaP_6
  replace kaP_7 : w2.cell? ⟨w.heap.size, 7, none⟩ = some (.int .i64 timep1) := (hb2.cell (p := ⟨w.heap.size, 7, none⟩) (by show w.heap.size < _; first | omega | (simp; omega) | simp)).trans kaP_7
  replace kaP_8 : w2.cell? ⟨w.heap.size, 8, none⟩ = some (.int .i64 echop1) := (hb2.cell (p := ⟨w.heap.size, 8, none⟩) (by show w.heap.size < _; first | omega | (simp; omega) | simp)).trans kaP_8
  have zzaP2 : w.heap.size < w2.heap.size := by omega
  clear zzaP1
  go_wp2_with fail
  go_region_held3 (fun w' => w'.cell? ⟨w.heap.size, 0, none⟩ = some (.int .i64 ap1) ∧ w'.cell? ⟨w.heap.size, 1, none⟩ = some (.int .i64 tickp1) ∧ w'.cell? ⟨w.heap.size, 2, none⟩ = some (.int .i64 firstp1) ∧ w'.cell? ⟨w.heap.size, 3, none⟩ = some (.slice Ap1 np1 cp1) ∧ w'.cell? ⟨w.heap.size, 4, none⟩ = some (.slice Dp1 mp1 dp1) ∧ w'.cell? ⟨w.heap.size, 5, none⟩ = some (.int .i64 stp1) ∧ w'.cell? ⟨w.heap.size, 6, none⟩ = some (.int .i64 sump1) ∧ w'.cell? ⟨w.heap.size, 7, none⟩ = some (.int .i64 timep1) ∧ w'.cell? ⟨w.heap.size, 8, none⟩ = some (.int .i64 echop1))
    (first
      | go_keep
      | exact ⟨kaP_0, kaP_1, kaP_2, kaP_3, kaP_4, kaP_5, kaP_6, kaP_7, kaP_8⟩)
    (first
      | (go_at_call 77; refine (lt_TrackS (w2.drew) HB2.size (h0.below HB2.drew (Nat.le_refl _)) (by omega)).mono ?_; rintro e w3 ⟨A3, c3, rfl, O3, hb3⟩; have hs3 : w2.heap.size ≤ w3.heap.size := hb3.size; have HB3 := HB2.drew.trans (hb3.mono HB2.size); replace kaP_0 : w3.cell? ⟨w.heap.size, 0, none⟩ = some (.int .i64 ap1) := (hb3.cell (p := ⟨w.heap.size, 0, none⟩) (by show w.heap.size < _; first | (show w.heap.size < w2.heap.size; omega) | (simp; done) | (simp; omega))).trans kaP_0; replace kaP_1 : w3.cell? ⟨w.heap.size, 1, none⟩ = some (.int .i64 tickp1) := (hb3.cell (p := ⟨w.heap.size, 1, none⟩) (by show w.heap.size < _; first | (show w.heap.size < w2.heap.size; omega) | (simp; done) | (simp; omega))).trans kaP_1; replace kaP_2 : w3.cell? ⟨w.heap.size, 2, none⟩ = some (.int .i64 firstp1) := (hb3.cell (p := ⟨w.heap.size, 2, none⟩) (by show w.heap.size < _; first | (show w.heap.size < w2.heap.size; omega) | (simp; done) | (simp; omega))).trans kaP_2; replace kaP_3 : w3.cell? ⟨w.heap.size, 3, none⟩ = some (.slice Ap1 np1 cp1) := (hb3.cell (p := ⟨w.heap.size, 3, none⟩) (by show w.heap.size < _; first | (show w.heap.size < w2.heap.size; omega) | (simp; done) | (simp; omega))).trans kaP_3; replace kaP_4 : w3.cell? ⟨w.heap.size, 4, none⟩ = some (.slice Dp1 mp1 dp1) := (hb3.cell (p := ⟨w.heap.size, 4, none⟩) (by show w.heap.size < _; first | (show w.heap.size < w2.heap.size; omega) | (simp; done) | (simp; omega))).trans kaP_4; replace kaP_5 : w3.cell? ⟨w.heap.size, 5, none⟩ = some (.int .i64 stp1) := (hb3.cell (p := ⟨w.heap.size, 5, none⟩) (by show w.heap.size < _; first | (show w.heap.size < w2.heap.size; omega) | (simp; done) | (simp; omega))).trans kaP_5; replace kaP_6 : w3.cell? ⟨w.heap.size, 6, none⟩ = some (.int .i64 sump1) := (hb3.cell (p := ⟨w.heap.size, 6, none⟩) (by show w.heap.size < _; first | (show w.heap.size < w2.heap.size; omega) | (simp; done) | (simp; omega))).trans kaP_6; replace kaP_7 : w3.cell? ⟨w.heap.size, 7, none⟩ = some (.int .i64 timep1) := (hb3.cell (p := ⟨w.heap.size, 7, none⟩) (by show w.heap.size < _; first | (show w.heap.size < w2.heap.size; omega) | (simp; done) | (simp; omega))).trans kaP_7; replace kaP_8 : w3.cell? ⟨w.heap.size, 8, none⟩ = some (.int .i64 echop1) := (hb3.cell (p := ⟨w.heap.size, 8, none⟩) (by show w.heap.size < _; first | (show w.heap.size < w2.heap.size; omega) | (simp; done) | (simp; omega))).trans kaP_8; have zzaP3 : w.heap.size < w3.heap.size := (by omega); clear hb3)
      | (go_at_call 82; refine (lt_Packet (w3) HB3.size (h1.below HB3 (Nat.le_refl _)) (by omega)).mono ?_; rintro e w4 ⟨A4, c4, D4, d4, rfl, O4, hb4⟩; have hs4 : w3.heap.size ≤ w4.heap.size := hb4.size; have HB4 := HB3.trans (hb4.mono HB3.size); replace O3 := (O3).below hb4 (by first | (show _ ≤ w3.heap.size; omega) | (simp; done) | (simp; omega)); replace kaP_0 : w4.cell? ⟨w.heap.size, 0, none⟩ = some (.int .i64 ap1) := (hb4.cell (p := ⟨w.heap.size, 0, none⟩) (by show w.heap.size < _; first | (show w.heap.size < w3.heap.size; omega) | (simp; done) | (simp; omega))).trans kaP_0; replace kaP_1 : w4.cell? ⟨w.heap.size, 1, none⟩ = some (.int .i64 tickp1) := (hb4.cell (p := ⟨w.heap.size, 1, none⟩) (by show w.heap.size < _; first | (show w.heap.size < w3.heap.size; omega) | (simp; done) | (simp; omega))).trans kaP_1; replace kaP_2 : w4.cell? ⟨w.heap.size, 2, none⟩ = some (.int .i64 firstp1) := (hb4.cell (p := ⟨w.heap.size, 2, none⟩) (by show w.heap.size < _; first | (show w.heap.size < w3.heap.size; omega) | (simp; done) | (simp; omega))).trans kaP_2; replace kaP_3 : w4.cell? ⟨w.heap.size, 3, none⟩ = some (.slice Ap1 np1 cp1) := (hb4.cell (p := ⟨w.heap.size, 3, none⟩) (by show w.heap.size < _; first | (show w.heap.size < w3.heap.size; omega) | (simp; done) | (simp; omega))).trans kaP_3; replace kaP_4 : w4.cell? ⟨w.heap.size, 4, none⟩ = some (.slice Dp1 mp1 dp1) := (hb4.cell (p := ⟨w.heap.size, 4, none⟩) (by show w.heap.size < _; first | (show w.heap.size < w3.heap.size; omega) | (simp; done) | (simp; omega))).trans kaP_4; replace kaP_5 : w4.cell? ⟨w.heap.size, 5, none⟩ = some (.int .i64 stp1) := (hb4.cell (p := ⟨w.heap.size, 5, none⟩) (by show w.heap.size < _; first | (show w.heap.size < w3.heap.size; omega) | (simp; done) | (simp; omega))).trans kaP_5; replace kaP_6 : w4.cell? ⟨w.heap.size, 6, none⟩ = some (.int .i64 sump1) := (hb4.cell (p := ⟨w.heap.size, 6, none⟩) (by show w.heap.size < _; first | (show w.heap.size < w3.heap.size; omega) | (simp; done) | (simp; omega))).trans kaP_6; replace kaP_7 : w4.cell? ⟨w.heap.size, 7, none⟩ = some (.int .i64 timep1) := (hb4.cell (p := ⟨w.heap.size, 7, none⟩) (by show w.heap.size < _; first | (show w.heap.size < w3.heap.size; omega) | (simp; done) | (simp; omega))).trans kaP_7; replace kaP_8 : w4.cell? ⟨w.heap.size, 8, none⟩ = some (.int .i64 echop1) := (hb4.cell (p := ⟨w.heap.size, 8, none⟩) (by show w.heap.size < _; first | (show w.heap.size < w3.heap.size; omega) | (simp; done) | (simp; omega))).trans kaP_8; have zzaP4 : w.heap.size < w4.heap.size := (by omega); clear hb4)
      | (go_at_call 134; refine (s_TakePacket _ _ _ _ _ _ _ _ (Nat.le_refl _) (O3).rdw (O4).rdw (by omega)).mono ?_; rintro e w5 ⟨A5, n5, c5, rfl, O5, hn5, hb5⟩; have hs5 : w4.heap.size ≤ w5.heap.size := hb5.size; have HB5 := HB4.trans (hb5.mono HB4.size); replace O3 := (O3).below hb5 (by first | (show _ ≤ w4.heap.size; omega) | (simp; done) | (simp; omega)); replace O4 := (O4).below hb5 (by first | (show _ ≤ w4.heap.size; omega) | (simp; done) | (simp; omega)); replace kaP_0 : w5.cell? ⟨w.heap.size, 0, none⟩ = some (.int .i64 ap1) := (hb5.cell (p := ⟨w.heap.size, 0, none⟩) (by show w.heap.size < _; first | (show w.heap.size < w4.heap.size; omega) | (simp; done) | (simp; omega))).trans kaP_0; replace kaP_1 : w5.cell? ⟨w.heap.size, 1, none⟩ = some (.int .i64 tickp1) := (hb5.cell (p := ⟨w.heap.size, 1, none⟩) (by show w.heap.size < _; first | (show w.heap.size < w4.heap.size; omega) | (simp; done) | (simp; omega))).trans kaP_1; replace kaP_2 : w5.cell? ⟨w.heap.size, 2, none⟩ = some (.int .i64 firstp1) := (hb5.cell (p := ⟨w.heap.size, 2, none⟩) (by show w.heap.size < _; first | (show w.heap.size < w4.heap.size; omega) | (simp; done) | (simp; omega))).trans kaP_2; replace kaP_3 : w5.cell? ⟨w.heap.size, 3, none⟩ = some (.slice Ap1 np1 cp1) := (hb5.cell (p := ⟨w.heap.size, 3, none⟩) (by show w.heap.size < _; first | (show w.heap.size < w4.heap.size; omega) | (simp; done) | (simp; omega))).trans kaP_3; replace kaP_4 : w5.cell? ⟨w.heap.size, 4, none⟩ = some (.slice Dp1 mp1 dp1) := (hb5.cell (p := ⟨w.heap.size, 4, none⟩) (by show w.heap.size < _; first | (show w.heap.size < w4.heap.size; omega) | (simp; done) | (simp; omega))).trans kaP_4; replace kaP_5 : w5.cell? ⟨w.heap.size, 5, none⟩ = some (.int .i64 stp1) := (hb5.cell (p := ⟨w.heap.size, 5, none⟩) (by show w.heap.size < _; first | (show w.heap.size < w4.heap.size; omega) | (simp; done) | (simp; omega))).trans kaP_5; replace kaP_6 : w5.cell? ⟨w.heap.size, 6, none⟩ = some (.int .i64 sump1) := (hb5.cell (p := ⟨w.heap.size, 6, none⟩) (by show w.heap.size < _; first | (show w.heap.size < w4.heap.size; omega) | (simp; done) | (simp; omega))).trans kaP_6; replace kaP_7 : w5.cell? ⟨w.heap.size, 7, none⟩ = some (.int .i64 timep1) := (hb5.cell (p := ⟨w.heap.size, 7, none⟩) (by show w.heap.size < _; first | (show w.heap.size < w4.heap.size; omega) | (simp; done) | (simp; omega))).trans kaP_7; replace kaP_8 : w5.cell? ⟨w.heap.size, 8, none⟩ = some (.int .i64 echop1) := (hb5.cell (p := ⟨w.heap.size, 8, none⟩) (by show w.heap.size < _; first | (show w.heap.size < w4.heap.size; omega) | (simp; done) | (simp; omega))).trans kaP_8; have zzaP5 : w.heap.size < w5.heap.size := (by omega); clear hb5))
  clear O3
  clear O4
  go_wp2_with fail
  refine (lt_TrackS _ (HB5.size) (h0.below HB5 (Nat.le_refl _)) (by omega)).mono ?_
  rintro e w6 ⟨A6, c6, rfl, O6, hb6⟩
  have hs6 : w5.heap.size ≤ w6.heap.size := by have := hb6.size; (try simp at this); omega
  have HB6 := HB5.trans (hb6.mono HB5.size)
  replace O5 := (O5).below hb6 (by first | omega | (simp; omega) | simp)
  replace kaP_0 : w6.cell? ⟨w.heap.size, 0, none⟩ = some (.int .i64 ap1) := (hb6.cell (p := ⟨w.heap.size, 0, none⟩) (by show w.heap.size < _; first | omega | (simp; omega) | simp)).trans kaP_0
  replace kaP_1 : w6.cell? ⟨w.heap.size, 1, none⟩ = some (.int .i64 tickp1) := (hb6.cell (p := ⟨w.heap.size, 1, none⟩) (by show w.heap.size < _; first | omega | (simp; omega) | simp)).trans kaP_1
  replace kaP_2 : w6.cell? ⟨w.heap.size, 2, none⟩ = some (.int .i64 firstp1) := (hb6.cell (p := ⟨w.heap.size, 2, none⟩) (by show w.heap.size < _; first | omega | (simp; omega) | simp)).trans kaP_2
  replace kaP_3 : w6.cell? ⟨w.heap.size, 3, none⟩ = some (.slice Ap1 np1 cp1) := (hb6.cell (p := ⟨w.heap.size, 3, none⟩) (by show w.heap.size < _; first | omega | (simp; omega) | simp)).trans kaP_3
  replace kaP_4 : w6.cell? ⟨w.heap.size, 4, none⟩ = some (.slice Dp1 mp1 dp1) := (hb6.cell (p := ⟨w.heap.size, 4, none⟩) (by show w.heap.size < _; first | omega | (simp; omega) | simp)).trans kaP_4
  replace kaP_5 : w6.cell? ⟨w.heap.size, 5, none⟩ = some (.int .i64 stp1) := (hb6.cell (p := ⟨w.heap.size, 5, none⟩) (by show w.heap.size < _; first | omega | (simp; omega) | simp)).trans kaP_5
  replace kaP_6 : w6.cell? ⟨w.heap.size, 6, none⟩ = some (.int .i64 sump1) := (hb6.cell (p := ⟨w.heap.size, 6, none⟩) (by show w.heap.size < _; first | omega | (simp; omega) | simp)).trans kaP_6
  replace kaP_7 : w6.cell? ⟨w.heap.size, 7, none⟩ = some (.int .i64 timep1) := (hb6.cell (p := ⟨w.heap.size, 7, none⟩) (by show w.heap.size < _; first | omega | (simp; omega) | simp)).trans kaP_7
  replace kaP_8 : w6.cell? ⟨w.heap.size, 8, none⟩ = some (.int .i64 echop1) := (hb6.cell (p := ⟨w.heap.size, 8, none⟩) (by show w.heap.size < _; first | omega | (simp; omega) | simp)).trans kaP_8
  have zzaP6 : w.heap.size < w6.heap.size := by omega
  clear zzaP5
  go_wp2_with fail
  refine (lt_Packet _ (HB6.size) (h1.below HB6 (Nat.le_refl _)) (by omega)).mono ?_
  rintro e w7 ⟨A7, c7, D7, d7, rfl, O7, hb7⟩
  have hs7 : w6.heap.size ≤ w7.heap.size := by have := hb7.size; (try simp at this); omega
  have HB7 := HB6.trans (hb7.mono HB6.size)
  replace O5 := (O5).below hb7 (by first | omega | (simp; omega) | simp)
  replace O6 := (O6).below hb7 (by first | omega | (simp; omega) | simp)
  replace kaP_0 : w7.cell? ⟨w.heap.size, 0, none⟩ = some (.int .i64 ap1) := (hb7.cell (p := ⟨w.heap.size, 0, none⟩) (by show w.heap.size < _; first | omega | (simp; omega) | simp)).trans kaP_0
  replace kaP_1 : w7.cell? ⟨w.heap.size, 1, none⟩ = some (.int .i64 tickp1) := (hb7.cell (p := ⟨w.heap.size, 1, none⟩) (by show w.heap.size < _; first | omega | (simp; omega) | simp)).trans kaP_1
  replace kaP_2 : w7.cell? ⟨w.heap.size, 2, none⟩ = some (.int .i64 firstp1) := (hb7.cell (p := ⟨w.heap.size, 2, none⟩) (by show w.heap.size < _; first | omega | (simp; omega) | simp)).trans kaP_2
  replace kaP_3 : w7.cell? ⟨w.heap.size, 3, none⟩ = some (.slice Ap1 np1 cp1) := (hb7.cell (p := ⟨w.heap.size, 3, none⟩) (by show w.heap.size < _; first | omega | (simp; omega) | simp)).trans kaP_3
  replace kaP_4 : w7.cell? ⟨w.heap.size, 4, none⟩ = some (.slice Dp1 mp1 dp1) := (hb7.cell (p := ⟨w.heap.size, 4, none⟩) (by show w.heap.size < _; first | omega | (simp; omega) | simp)).trans kaP_4
  replace kaP_5 : w7.cell? ⟨w.heap.size, 5, none⟩ = some (.int .i64 stp1) := (hb7.cell (p := ⟨w.heap.size, 5, none⟩) (by show w.heap.size < _; first | omega | (simp; omega) | simp)).trans kaP_5
  replace kaP_6 : w7.cell? ⟨w.heap.size, 6, none⟩ = some (.int .i64 sump1) := (hb7.cell (p := ⟨w.heap.size, 6, none⟩) (by show w.heap.size < _; first | omega | (simp; omega) | simp)).trans kaP_6
  replace kaP_7 : w7.cell? ⟨w.heap.size, 7, none⟩ = some (.int .i64 timep1) := (hb7.cell (p := ⟨w.heap.size, 7, none⟩) (by show w.heap.size < _; first | omega | (simp; omega) | simp)).trans kaP_7
  replace kaP_8 : w7.cell? ⟨w.heap.size, 8, none⟩ = some (.int .i64 echop1) := (hb7.cell (p := ⟨w.heap.size, 8, none⟩) (by show w.heap.size < _; first | omega | (simp; omega) | simp)).trans kaP_8
  have zzaP7 : w.heap.size < w7.heap.size := by omega
  clear zzaP6
  go_wp2_with fail
  refine (i_TakePacket _ _ _ _ _ _ _ _ (Nat.le_refl _) (O6.alloc _).rdw (O7.alloc _).rdw (by omega)).mono ?_
  rintro e w8 ⟨A8, n8, c8, rfl, O8, hn8, hb8⟩
  simp only [World.size_alloc] at O8
  have hs8 : w7.heap.size + 1 ≤ w8.heap.size := by have := hb8.size; (try simp at this); omega
  have HB8 := (HB7.alloc (by first | omega | (simp; omega) | simp) _).trans (hb8.mono (HB7.alloc (by first | omega | (simp; omega) | simp) _).size)
  replace O5 := (O5.alloc _).below hb8 (by first | omega | (simp; omega) | simp)
  replace O6 := (O6.alloc _).below hb8 (by first | omega | (simp; omega) | simp)
  replace O7 := (O7.alloc _).below hb8 (by first | omega | (simp; omega) | simp)
  replace kaP_0 : w8.cell? ⟨w.heap.size, 0, none⟩ = some (.int .i64 ap1) := (hb8.cell (p := ⟨w.heap.size, 0, none⟩) (by show w.heap.size < _; first | omega | (simp; omega) | simp)).trans ((World.cell?_alloc_lt _ _ _ (by show w.heap.size < _; first | omega | (simp; omega) | simp)).trans kaP_0)
  replace kaP_1 : w8.cell? ⟨w.heap.size, 1, none⟩ = some (.int .i64 tickp1) := (hb8.cell (p := ⟨w.heap.size, 1, none⟩) (by show w.heap.size < _; first | omega | (simp; omega) | simp)).trans ((World.cell?_alloc_lt _ _ _ (by show w.heap.size < _; first | omega | (simp; omega) | simp)).trans kaP_1)
  replace kaP_2 : w8.cell? ⟨w.heap.size, 2, none⟩ = some (.int .i64 firstp1) := (hb8.cell (p := ⟨w.heap.size, 2, none⟩) (by show w.heap.size < _; first | omega | (simp; omega) | simp)).trans ((World.cell?_alloc_lt _ _ _ (by show w.heap.size < _; first | omega | (simp; omega) | simp)).trans kaP_2)
  replace kaP_3 : w8.cell? ⟨w.heap.size, 3, none⟩ = some (.slice Ap1 np1 cp1) := (hb8.cell (p := ⟨w.heap.size, 3, none⟩) (by show w.heap.size < _; first | omega | (simp; omega) | simp)).trans ((World.cell?_alloc_lt _ _ _ (by show w.heap.size < _; first | omega | (simp; omega) | simp)).trans kaP_3)
  replace kaP_4 : w8.cell? ⟨w.heap.size, 4, none⟩ = some (.slice Dp1 mp1 dp1) := (hb8.cell (p := ⟨w.heap.size, 4, none⟩) (by show w.heap.size < _; first | omega | (simp; omega) | simp)).trans ((World.cell?_alloc_lt _ _ _ (by show w.heap.size < _; first | omega | (simp; omega) | simp)).trans kaP_4)
  replace kaP_5 : w8.cell? ⟨w.heap.size, 5, none⟩ = some (.int .i64 stp1) := (hb8.cell (p := ⟨w.heap.size, 5, none⟩) (by show w.heap.size < _; first | omega | (simp; omega) | simp)).trans ((World.cell?_alloc_lt _ _ _ (by show w.heap.size < _; first | omega | (simp; omega) | simp)).trans kaP_5)
  replace kaP_6 : w8.cell? ⟨w.heap.size, 6, none⟩ = some (.int .i64 sump1) := (hb8.cell (p := ⟨w.heap.size, 6, none⟩) (by show w.heap.size < _; first | omega | (simp; omega) | simp)).trans ((World.cell?_alloc_lt _ _ _ (by show w.heap.size < _; first | omega | (simp; omega) | simp)).trans kaP_6)
  replace kaP_7 : w8.cell? ⟨w.heap.size, 7, none⟩ = some (.int .i64 timep1) := (hb8.cell (p := ⟨w.heap.size, 7, none⟩) (by show w.heap.size < _; first | omega | (simp; omega) | simp)).trans ((World.cell?_alloc_lt _ _ _ (by show w.heap.size < _; first | omega | (simp; omega) | simp)).trans kaP_7)
  replace kaP_8 : w8.cell? ⟨w.heap.size, 8, none⟩ = some (.int .i64 echop1) := (hb8.cell (p := ⟨w.heap.size, 8, none⟩) (by show w.heap.size < _; first | omega | (simp; omega) | simp)).trans ((World.cell?_alloc_lt _ _ _ (by show w.heap.size < _; first | omega | (simp; omega) | simp)).trans kaP_8)
  have zzaP8 : w.heap.size < w8.heap.size := by omega
  clear zzaP7
  have kx1_0 : w8.cell? ⟨w7.heap.size, 0, none⟩ = some (.int .i64 ap1) := (hb8.cell (p := ⟨w7.heap.size, 0, none⟩) (by show w7.heap.size < _; first | omega | (simp; omega) | simp)).trans (by simp)
  have kx1_1 : w8.cell? ⟨w7.heap.size, 1, none⟩ = some (.int .i64 tickp1) := (hb8.cell (p := ⟨w7.heap.size, 1, none⟩) (by show w7.heap.size < _; first | omega | (simp; omega) | simp)).trans (by simp)
  have kx1_2 : w8.cell? ⟨w7.heap.size, 2, none⟩ = some (.int .i64 firstp1) := (hb8.cell (p := ⟨w7.heap.size, 2, none⟩) (by show w7.heap.size < _; first | omega | (simp; omega) | simp)).trans (by simp)
  have kx1_3 : w8.cell? ⟨w7.heap.size, 3, none⟩ = some (.slice A7 np1 c7) := (hb8.cell (p := ⟨w7.heap.size, 3, none⟩) (by show w7.heap.size < _; first | omega | (simp; omega) | simp)).trans (by simp)
  have kx1_4 : w8.cell? ⟨w7.heap.size, 4, none⟩ = some (.slice D7 mp1 d7) := (hb8.cell (p := ⟨w7.heap.size, 4, none⟩) (by show w7.heap.size < _; first | omega | (simp; omega) | simp)).trans (by simp)
  have kx1_5 : w8.cell? ⟨w7.heap.size, 5, none⟩ = some (.int .i64 stp1) := (hb8.cell (p := ⟨w7.heap.size, 5, none⟩) (by show w7.heap.size < _; first | omega | (simp; omega) | simp)).trans (by simp)
  have kx1_6 : w8.cell? ⟨w7.heap.size, 6, none⟩ = some (.int .i64 sump1) := (hb8.cell (p := ⟨w7.heap.size, 6, none⟩) (by show w7.heap.size < _; first | omega | (simp; omega) | simp)).trans (by simp)
  have kx1_7 : w8.cell? ⟨w7.heap.size, 7, none⟩ = some (.int .i64 timep1) := (hb8.cell (p := ⟨w7.heap.size, 7, none⟩) (by show w7.heap.size < _; first | omega | (simp; omega) | simp)).trans (by simp)
  have kx1_8 : w8.cell? ⟨w7.heap.size, 8, none⟩ = some (.int .i64 echop1) := (hb8.cell (p := ⟨w7.heap.size, 8, none⟩) (by show w7.heap.size < _; first | omega | (simp; omega) | simp)).trans (by simp)
  have zzx18 : w7.heap.size < w8.heap.size := by omega
  go_wp2_with fail
  refine (le_TrackS _ (Nat.le_refl _) (O8).rdw (O5).rdw).mono ?_
  rintro e w9 ⟨rfl, hb9⟩
  have hs9 : w8.heap.size ≤ w9.heap.size := by have := hb9.size; (try simp at this); omega
  have HB9 := HB8.trans (hb9.mono HB8.size)
  replace O5 := (O5).below hb9 (by first | omega | (simp; omega) | simp)
  replace O6 := (O6).below hb9 (by first | omega | (simp; omega) | simp)
  replace O7 := (O7).below hb9 (by first | omega | (simp; omega) | simp)
  replace O8 := (O8).below hb9 (by first | omega | (simp; omega) | simp)
  replace kaP_0 : w9.cell? ⟨w.heap.size, 0, none⟩ = some (.int .i64 ap1) := (hb9.cell (p := ⟨w.heap.size, 0, none⟩) (by show w.heap.size < _; first | omega | (simp; omega) | simp)).trans kaP_0
  replace kaP_1 : w9.cell? ⟨w.heap.size, 1, none⟩ = some (.int .i64 tickp1) := (hb9.cell (p := ⟨w.heap.size, 1, none⟩) (by show w.heap.size < _; first | omega | (simp; omega) | simp)).trans kaP_1
  replace kaP_2 : w9.cell? ⟨w.heap.size, 2, none⟩ = some (.int .i64 firstp1) := (hb9.cell (p := ⟨w.heap.size, 2, none⟩) (by show w.heap.size < _; first | omega | (simp; omega) | simp)).trans kaP_2
  replace kaP_3 : w9.cell? ⟨w.heap.size, 3, none⟩ = some (.slice Ap1 np1 cp1) := (hb9.cell (p := ⟨w.heap.size, 3, none⟩) (by show w.heap.size < _; first | omega | (simp; omega) | simp)).trans kaP_3
  replace kaP_4 : w9.cell? ⟨w.heap.size, 4, none⟩ = some (.slice Dp1 mp1 dp1) := (hb9.cell (p := ⟨w.heap.size, 4, none⟩) (by show w.heap.size < _; first | omega | (simp; omega) | simp)).trans kaP_4
  replace kaP_5 : w9.cell? ⟨w.heap.size, 5, none⟩ = some (.int .i64 stp1) := (hb9.cell (p := ⟨w.heap.size, 5, none⟩) (by show w.heap.size < _; first | omega | (simp; omega) | simp)).trans kaP_5
  replace kaP_6 : w9.cell? ⟨w.heap.size, 6, none⟩ = some (.int .i64 sump1) := (hb9.cell (p := ⟨w.heap.size, 6, none⟩) (by show w.heap.size < _; first | omega | (simp; omega) | simp)).trans kaP_6
  replace kaP_7 : w9.cell? ⟨w.heap.size, 7, none⟩ = some (.int .i64 timep1) := (hb9.cell (p := ⟨w.heap.size, 7, none⟩) (by show w.heap.size < _; first | omega | (simp; omega) | simp)).trans kaP_7
  replace kaP_8 : w9.cell? ⟨w.heap.size, 8, none⟩ = some (.int .i64 echop1) := (hb9.cell (p := ⟨w.heap.size, 8, none⟩) (by show w.heap.size < _; first | omega | (simp; omega) | simp)).trans kaP_8
  have zzaP9 : w.heap.size < w9.heap.size := by omega
  clear zzaP8
  replace kx1_0 : w9.cell? ⟨w7.heap.size, 0, none⟩ = some (.int .i64 ap1) := (hb9.cell (p := ⟨w7.heap.size, 0, none⟩) (by show w7.heap.size < _; first | omega | (simp; omega) | simp)).trans kx1_0
  replace kx1_1 : w9.cell? ⟨w7.heap.size, 1, none⟩ = some (.int .i64 tickp1) := (hb9.cell (p := ⟨w7.heap.size, 1, none⟩) (by show w7.heap.size < _; first | omega | (simp; omega) | simp)).trans kx1_1
  replace kx1_2 : w9.cell? ⟨w7.heap.size, 2, none⟩ = some (.int .i64 firstp1) := (hb9.cell (p := ⟨w7.heap.size, 2, none⟩) (by show w7.heap.size < _; first | omega | (simp; omega) | simp)).trans kx1_2
  replace kx1_3 : w9.cell? ⟨w7.heap.size, 3, none⟩ = some (.slice A7 np1 c7) := (hb9.cell (p := ⟨w7.heap.size, 3, none⟩) (by show w7.heap.size < _; first | omega | (simp; omega) | simp)).trans kx1_3
  replace kx1_4 : w9.cell? ⟨w7.heap.size, 4, none⟩ = some (.slice D7 mp1 d7) := (hb9.cell (p := ⟨w7.heap.size, 4, none⟩) (by show w7.heap.size < _; first | omega | (simp; omega) | simp)).trans kx1_4
  replace kx1_5 : w9.cell? ⟨w7.heap.size, 5, none⟩ = some (.int .i64 stp1) := (hb9.cell (p := ⟨w7.heap.size, 5, none⟩) (by show w7.heap.size < _; first | omega | (simp; omega) | simp)).trans kx1_5
  replace kx1_6 : w9.cell? ⟨w7.heap.size, 6, none⟩ = some (.int .i64 sump1) := (hb9.cell (p := ⟨w7.heap.size, 6, none⟩) (by show w7.heap.size < _; first | omega | (simp; omega) | simp)).trans kx1_6
  replace kx1_7 : w9.cell? ⟨w7.heap.size, 7, none⟩ = some (.int .i64 timep1) := (hb9.cell (p := ⟨w7.heap.size, 7, none⟩) (by show w7.heap.size < _; first | omega | (simp; omega) | simp)).trans kx1_7
  replace kx1_8 : w9.cell? ⟨w7.heap.size, 8, none⟩ = some (.int .i64 echop1) := (hb9.cell (p := ⟨w7.heap.size, 8, none⟩) (by show w7.heap.size < _; first | omega | (simp; omega) | simp)).trans kx1_8
  have zzx19 : w7.heap.size < w9.heap.size := by omega
  clear zzx18
  go_wp2_with fail
  refine (lt_TrackS _ (HB9.size) (h0.below HB9 (Nat.le_refl _)) (by omega)).mono ?_
  rintro e w10 ⟨A10, c10, rfl, O10, hb10⟩
  have hs10 : w9.heap.size ≤ w10.heap.size := by have := hb10.size; (try simp at this); omega
  have HB10 := HB9.trans (hb10.mono HB9.size)
  replace O5 := (O5).below hb10 (by first | omega | (simp; omega) | simp)
  replace O6 := (O6).below hb10 (by first | omega | (simp; omega) | simp)
  replace O7 := (O7).below hb10 (by first | omega | (simp; omega) | simp)
  replace O8 := (O8).below hb10 (by first | omega | (simp; omega) | simp)
  replace kaP_0 : w10.cell? ⟨w.heap.size, 0, none⟩ = some (.int .i64 ap1) := (hb10.cell (p := ⟨w.heap.size, 0, none⟩) (by show w.heap.size < _; first | omega | (simp; omega) | simp)).trans kaP_0
  replace kaP_1 : w10.cell? ⟨w.heap.size, 1, none⟩ = some (.int .i64 tickp1) := (hb10.cell (p := ⟨w.heap.size, 1, none⟩) (by show w.heap.size < _; first | omega | (simp; omega) | simp)).trans kaP_1
  replace kaP_2 : w10.cell? ⟨w.heap.size, 2, none⟩ = some (.int .i64 firstp1) := (hb10.cell (p := ⟨w.heap.size, 2, none⟩) (by show w.heap.size < _; first | omega | (simp; omega) | simp)).trans kaP_2
  replace kaP_3 : w10.cell? ⟨w.heap.size, 3, none⟩ = some (.slice Ap1 np1 cp1) := (hb10.cell (p := ⟨w.heap.size, 3, none⟩) (by show w.heap.size < _; first | omega | (simp; omega) | simp)).trans kaP_3
  replace kaP_4 : w10.cell? ⟨w.heap.size, 4, none⟩ = some (.slice Dp1 mp1 dp1) := (hb10.cell (p := ⟨w.heap.size, 4, none⟩) (by show w.heap.size < _; first | omega | (simp; omega) | simp)).trans kaP_4
  replace kaP_5 : w10.cell? ⟨w.heap.size, 5, none⟩ = some (.int .i64 stp1) := (hb10.cell (p := ⟨w.heap.size, 5, none⟩) (by show w.heap.size < _; first | omega | (simp; omega) | simp)).trans kaP_5
  replace kaP_6 : w10.cell? ⟨w.heap.size, 6, none⟩ = some (.int .i64 sump1) := (hb10.cell (p := ⟨w.heap.size, 6, none⟩) (by show w.heap.size < _; first | omega | (simp; omega) | simp)).trans kaP_6
  replace kaP_7 : w10.cell? ⟨w.heap.size, 7, none⟩ = some (.int .i64 timep1) := (hb10.cell (p := ⟨w.heap.size, 7, none⟩) (by show w.heap.size < _; first | omega | (simp; omega) | simp)).trans kaP_7
  replace kaP_8 : w10.cell? ⟨w.heap.size, 8, none⟩ = some (.int .i64 echop1) := (hb10.cell (p := ⟨w.heap.size, 8, none⟩) (by show w.heap.size < _; first | omega | (simp; omega) | simp)).trans kaP_8
  have zzaP10 : w.heap.size < w10.heap.size := by omega
  clear zzaP9
  replace kx1_0 : w10.cell? ⟨w7.heap.size, 0, none⟩ = some (.int .i64 ap1) := (hb10.cell (p := ⟨w7.heap.size, 0, none⟩) (by show w7.heap.size < _; first | omega | (simp; omega) | simp)).trans kx1_0
  replace kx1_1 : w10.cell? ⟨w7.heap.size, 1, none⟩ = some (.int .i64 tickp1) := (hb10.cell (p := ⟨w7.heap.size, 1, none⟩) (by show w7.heap.size < _; first | omega | (simp; omega) | simp)).trans kx1_1
  replace kx1_2 : w10.cell? ⟨w7.heap.size, 2, none⟩ = some (.int .i64 firstp1) := (hb10.cell (p := ⟨w7.heap.size, 2, none⟩) (by show w7.heap.size < _; first | omega | (simp; omega) | simp)).trans kx1_2
  replace kx1_3 : w10.cell? ⟨w7.heap.size, 3, none⟩ = some (.slice A7 np1 c7) := (hb10.cell (p := ⟨w7.heap.size, 3, none⟩) (by show w7.heap.size < _; first | omega | (simp; omega) | simp)).trans kx1_3
  replace kx1_4 : w10.cell? ⟨w7.heap.size, 4, none⟩ = some (.slice D7 mp1 d7) := (hb10.cell (p := ⟨w7.heap.size, 4, none⟩) (by show w7.heap.size < _; first | omega | (simp; omega) | simp)).trans kx1_4
  replace kx1_5 : w10.cell? ⟨w7.heap.size, 5, none⟩ = some (.int .i64 stp1) := (hb10.cell (p := ⟨w7.heap.size, 5, none⟩) (by show w7.heap.size < _; first | omega | (simp; omega) | simp)).trans kx1_5
  replace kx1_6 : w10.cell? ⟨w7.heap.size, 6, none⟩ = some (.int .i64 sump1) := (hb10.cell (p := ⟨w7.heap.size, 6, none⟩) (by show w7.heap.size < _; first | omega | (simp; omega) | simp)).trans kx1_6
  replace kx1_7 : w10.cell? ⟨w7.heap.size, 7, none⟩ = some (.int .i64 timep1) := (hb10.cell (p := ⟨w7.heap.size, 7, none⟩) (by show w7.heap.size < _; first | omega | (simp; omega) | simp)).trans kx1_7
  replace kx1_8 : w10.cell? ⟨w7.heap.size, 8, none⟩ = some (.int .i64 echop1) := (hb10.cell (p := ⟨w7.heap.size, 8, none⟩) (by show w7.heap.size < _; first | omega | (simp; omega) | simp)).trans kx1_8
  have zzx110 : w7.heap.size < w10.heap.size := by omega
  clear zzx19
  go_wp2_with fail
  refine (le_TrackS _ (Nat.le_refl _) (O6).rdw (O10).rdw).mono ?_
  rintro e w11 ⟨rfl, hb11⟩
  have hs11 : w10.heap.size ≤ w11.heap.size := by have := hb11.size; (try simp at this); omega
  have HB11 := HB10.trans (hb11.mono HB10.size)
  replace O5 := (O5).below hb11 (by first | omega | (simp; omega) | simp)
  replace O6 := (O6).below hb11 (by first | omega | (simp; omega) | simp)
  replace O7 := (O7).below hb11 (by first | omega | (simp; omega) | simp)
  replace O8 := (O8).below hb11 (by first | omega | (simp; omega) | simp)
  replace O10 := (O10).below hb11 (by first | omega | (simp; omega) | simp)
  replace kaP_0 : w11.cell? ⟨w.heap.size, 0, none⟩ = some (.int .i64 ap1) := (hb11.cell (p := ⟨w.heap.size, 0, none⟩) (by show w.heap.size < _; first | omega | (simp; omega) | simp)).trans kaP_0
  replace kaP_1 : w11.cell? ⟨w.heap.size, 1, none⟩ = some (.int .i64 tickp1) := (hb11.cell (p := ⟨w.heap.size, 1, none⟩) (by show w.heap.size < _; first | omega | (simp; omega) | simp)).trans kaP_1
  replace kaP_2 : w11.cell? ⟨w.heap.size, 2, none⟩ = some (.int .i64 firstp1) := (hb11.cell (p := ⟨w.heap.size, 2, none⟩) (by show w.heap.size < _; first | omega | (simp; omega) | simp)).trans kaP_2
  replace kaP_3 : w11.cell? ⟨w.heap.size, 3, none⟩ = some (.slice Ap1 np1 cp1) := (hb11.cell (p := ⟨w.heap.size, 3, none⟩) (by show w.heap.size < _; first | omega | (simp; omega) | simp)).trans kaP_3
  replace kaP_4 : w11.cell? ⟨w.heap.size, 4, none⟩ = some (.slice Dp1 mp1 dp1) := (hb11.cell (p := ⟨w.heap.size, 4, none⟩) (by show w.heap.size < _; first | omega | (simp; omega) | simp)).trans kaP_4
  replace kaP_5 : w11.cell? ⟨w.heap.size, 5, none⟩ = some (.int .i64 stp1) := (hb11.cell (p := ⟨w.heap.size, 5, none⟩) (by show w.heap.size < _; first | omega | (simp; omega) | simp)).trans kaP_5
  replace kaP_6 : w11.cell? ⟨w.heap.size, 6, none⟩ = some (.int .i64 sump1) := (hb11.cell (p := ⟨w.heap.size, 6, none⟩) (by show w.heap.size < _; first | omega | (simp; omega) | simp)).trans kaP_6
  replace kaP_7 : w11.cell? ⟨w.heap.size, 7, none⟩ = some (.int .i64 timep1) := (hb11.cell (p := ⟨w.heap.size, 7, none⟩) (by show w.heap.size < _; first | omega | (simp; omega) | simp)).trans kaP_7
  replace kaP_8 : w11.cell? ⟨w.heap.size, 8, none⟩ = some (.int .i64 echop1) := (hb11.cell (p := ⟨w.heap.size, 8, none⟩) (by show w.heap.size < _; first | omega | (simp; omega) | simp)).trans kaP_8
  have zzaP11 : w.heap.size < w11.heap.size := by omega
  clear zzaP10
  replace kx1_0 : w11.cell? ⟨w7.heap.size, 0, none⟩ = some (.int .i64 ap1) := (hb11.cell (p := ⟨w7.heap.size, 0, none⟩) (by show w7.heap.size < _; first | omega | (simp; omega) | simp)).trans kx1_0
  replace kx1_1 : w11.cell? ⟨w7.heap.size, 1, none⟩ = some (.int .i64 tickp1) := (hb11.cell (p := ⟨w7.heap.size, 1, none⟩) (by show w7.heap.size < _; first | omega | (simp; omega) | simp)).trans kx1_1
  replace kx1_2 : w11.cell? ⟨w7.heap.size, 2, none⟩ = some (.int .i64 firstp1) := (hb11.cell (p := ⟨w7.heap.size, 2, none⟩) (by show w7.heap.size < _; first | omega | (simp; omega) | simp)).trans kx1_2
  replace kx1_3 : w11.cell? ⟨w7.heap.size, 3, none⟩ = some (.slice A7 np1 c7) := (hb11.cell (p := ⟨w7.heap.size, 3, none⟩) (by show w7.heap.size < _; first | omega | (simp; omega) | simp)).trans kx1_3
  replace kx1_4 : w11.cell? ⟨w7.heap.size, 4, none⟩ = some (.slice D7 mp1 d7) := (hb11.cell (p := ⟨w7.heap.size, 4, none⟩) (by show w7.heap.size < _; first | omega | (simp; omega) | simp)).trans kx1_4
  replace kx1_5 : w11.cell? ⟨w7.heap.size, 5, none⟩ = some (.int .i64 stp1) := (hb11.cell (p := ⟨w7.heap.size, 5, none⟩) (by show w7.heap.size < _; first | omega | (simp; omega) | simp)).trans kx1_5
  replace kx1_6 : w11.cell? ⟨w7.heap.size, 6, none⟩ = some (.int .i64 sump1) := (hb11.cell (p := ⟨w7.heap.size, 6, none⟩) (by show w7.heap.size < _; first | omega | (simp; omega) | simp)).trans kx1_6
  replace kx1_7 : w11.cell? ⟨w7.heap.size, 7, none⟩ = some (.int .i64 timep1) := (hb11.cell (p := ⟨w7.heap.size, 7, none⟩) (by show w7.heap.size < _; first | omega | (simp; omega) | simp)).trans kx1_7
  replace kx1_8 : w11.cell? ⟨w7.heap.size, 8, none⟩ = some (.int .i64 echop1) := (hb11.cell (p := ⟨w7.heap.size, 8, none⟩) (by show w7.heap.size < _; first | omega | (simp; omega) | simp)).trans kx1_8
  have zzx111 : w7.heap.size < w11.heap.size := by omega
  clear zzx110
  clear O10
  go_wp2_with fail
  have hxd := h1.below HB11.drew (Nat.le_refl _)
  go_region_held3 (fun w' => w'.cell? ⟨w7.heap.size, 0, none⟩ = some (.int .i64 ap1) ∧ w'.cell? ⟨w7.heap.size, 1, none⟩ = some (.int .i64 tickp1) ∧ w'.cell? ⟨w7.heap.size, 2, none⟩ = some (.int .i64 firstp1) ∧ w'.cell? ⟨w7.heap.size, 3, none⟩ = some (.slice A7 np1 c7) ∧ w'.cell? ⟨w7.heap.size, 4, none⟩ = some (.slice D7 mp1 d7) ∧ w'.cell? ⟨w7.heap.size, 5, none⟩ = some (.int .i64 stp1) ∧ w'.cell? ⟨w7.heap.size, 6, none⟩ = some (.int .i64 sump1) ∧ w'.cell? ⟨w7.heap.size, 7, none⟩ = some (.int .i64 timep1) ∧ w'.cell? ⟨w7.heap.size, 8, none⟩ = some (.int .i64 echop1) ∧ w'.cell? ⟨w.heap.size, 0, none⟩ = some (.int .i64 ap1) ∧ w'.cell? ⟨w.heap.size, 1, none⟩ = some (.int .i64 tickp1) ∧ w'.cell? ⟨w.heap.size, 2, none⟩ = some (.int .i64 firstp1) ∧ w'.cell? ⟨w.heap.size, 3, none⟩ = some (.slice Ap1 np1 cp1) ∧ w'.cell? ⟨w.heap.size, 4, none⟩ = some (.slice Dp1 mp1 dp1) ∧ w'.cell? ⟨w.heap.size, 5, none⟩ = some (.int .i64 stp1) ∧ w'.cell? ⟨w.heap.size, 6, none⟩ = some (.int .i64 sump1) ∧ w'.cell? ⟨w.heap.size, 7, none⟩ = some (.int .i64 timep1) ∧ w'.cell? ⟨w.heap.size, 8, none⟩ = some (.int .i64 echop1))
    (first
      | go_keep
      | exact ⟨kx1_0, kx1_1, kx1_2, kx1_3, kx1_4, kx1_5, kx1_6, kx1_7, kx1_8, kaP_0, kaP_1, kaP_2, kaP_3, kaP_4, kaP_5, kaP_6, kaP_7, kaP_8⟩
      | exact ⟨ekx1_0, ekx1_1, ekx1_2, ekx1_3, ekx1_4, ekx1_5, ekx1_6, ekx1_7, ekx1_8, ekaP_0, ekaP_1, ekaP_2, ekaP_3, ekaP_4, ekaP_5, ekaP_6, ekaP_7, ekaP_8⟩)
    (first
      | (go_at_call 82; refine (lt_Packet w11.drew HB11.size hxd (by omega)).mono ?_; rintro e w12 ⟨A12, c12, D12, d12, rfl, Oa, hba⟩; have hsa : w11.heap.size ≤ w12.heap.size := hba.size; have HBa := HB11.drew.trans (hba.mono HB11.size); have Ox := O7.drew.below hba (by show _ ≤ w11.heap.size; omega); have ekx1_0 : w12.cell? ⟨w7.heap.size, 0, none⟩ = some (.int .i64 ap1) := (hba.cell (p := ⟨w7.heap.size, 0, none⟩) (by show w7.heap.size < w11.heap.size; omega)).trans kx1_0; have ekx1_1 : w12.cell? ⟨w7.heap.size, 1, none⟩ = some (.int .i64 tickp1) := (hba.cell (p := ⟨w7.heap.size, 1, none⟩) (by show w7.heap.size < w11.heap.size; omega)).trans kx1_1; have ekx1_2 : w12.cell? ⟨w7.heap.size, 2, none⟩ = some (.int .i64 firstp1) := (hba.cell (p := ⟨w7.heap.size, 2, none⟩) (by show w7.heap.size < w11.heap.size; omega)).trans kx1_2; have ekx1_3 : w12.cell? ⟨w7.heap.size, 3, none⟩ = some (.slice A7 np1 c7) := (hba.cell (p := ⟨w7.heap.size, 3, none⟩) (by show w7.heap.size < w11.heap.size; omega)).trans kx1_3; have ekx1_4 : w12.cell? ⟨w7.heap.size, 4, none⟩ = some (.slice D7 mp1 d7) := (hba.cell (p := ⟨w7.heap.size, 4, none⟩) (by show w7.heap.size < w11.heap.size; omega)).trans kx1_4; have ekx1_5 : w12.cell? ⟨w7.heap.size, 5, none⟩ = some (.int .i64 stp1) := (hba.cell (p := ⟨w7.heap.size, 5, none⟩) (by show w7.heap.size < w11.heap.size; omega)).trans kx1_5; have ekx1_6 : w12.cell? ⟨w7.heap.size, 6, none⟩ = some (.int .i64 sump1) := (hba.cell (p := ⟨w7.heap.size, 6, none⟩) (by show w7.heap.size < w11.heap.size; omega)).trans kx1_6; have ekx1_7 : w12.cell? ⟨w7.heap.size, 7, none⟩ = some (.int .i64 timep1) := (hba.cell (p := ⟨w7.heap.size, 7, none⟩) (by show w7.heap.size < w11.heap.size; omega)).trans kx1_7; have ekx1_8 : w12.cell? ⟨w7.heap.size, 8, none⟩ = some (.int .i64 echop1) := (hba.cell (p := ⟨w7.heap.size, 8, none⟩) (by show w7.heap.size < w11.heap.size; omega)).trans kx1_8; have ekaP_0 : w12.cell? ⟨w.heap.size, 0, none⟩ = some (.int .i64 ap1) := (hba.cell (p := ⟨w.heap.size, 0, none⟩) (by show w.heap.size < w11.heap.size; omega)).trans kaP_0; have ekaP_1 : w12.cell? ⟨w.heap.size, 1, none⟩ = some (.int .i64 tickp1) := (hba.cell (p := ⟨w.heap.size, 1, none⟩) (by show w.heap.size < w11.heap.size; omega)).trans kaP_1; have ekaP_2 : w12.cell? ⟨w.heap.size, 2, none⟩ = some (.int .i64 firstp1) := (hba.cell (p := ⟨w.heap.size, 2, none⟩) (by show w.heap.size < w11.heap.size; omega)).trans kaP_2; have ekaP_3 : w12.cell? ⟨w.heap.size, 3, none⟩ = some (.slice Ap1 np1 cp1) := (hba.cell (p := ⟨w.heap.size, 3, none⟩) (by show w.heap.size < w11.heap.size; omega)).trans kaP_3; have ekaP_4 : w12.cell? ⟨w.heap.size, 4, none⟩ = some (.slice Dp1 mp1 dp1) := (hba.cell (p := ⟨w.heap.size, 4, none⟩) (by show w.heap.size < w11.heap.size; omega)).trans kaP_4; have ekaP_5 : w12.cell? ⟨w.heap.size, 5, none⟩ = some (.int .i64 stp1) := (hba.cell (p := ⟨w.heap.size, 5, none⟩) (by show w.heap.size < w11.heap.size; omega)).trans kaP_5; have ekaP_6 : w12.cell? ⟨w.heap.size, 6, none⟩ = some (.int .i64 sump1) := (hba.cell (p := ⟨w.heap.size, 6, none⟩) (by show w.heap.size < w11.heap.size; omega)).trans kaP_6; have ekaP_7 : w12.cell? ⟨w.heap.size, 7, none⟩ = some (.int .i64 timep1) := (hba.cell (p := ⟨w.heap.size, 7, none⟩) (by show w.heap.size < w11.heap.size; omega)).trans kaP_7; have ekaP_8 : w12.cell? ⟨w.heap.size, 8, none⟩ = some (.int .i64 echop1) := (hba.cell (p := ⟨w.heap.size, 8, none⟩) (by show w.heap.size < w11.heap.size; omega)).trans kaP_8)
      | (go_at_call 84; refine (le_Packet _ (Nat.le_refl _) Ox.rdw Oa.rdw).mono ?_; rintro e w13 ⟨rfl, hb13⟩; have hs13 : w11.heap.size ≤ w13.heap.size := Nat.le_trans hsa hb13.size; have HB13 := HBa.trans (hb13.mono HBa.size); have ekx1_0 : w13.cell? ⟨w7.heap.size, 0, none⟩ = some (.int .i64 ap1) := (hb13.cell (p := ⟨w7.heap.size, 0, none⟩) (by show w7.heap.size < _; omega)).trans ekx1_0; have ekx1_1 : w13.cell? ⟨w7.heap.size, 1, none⟩ = some (.int .i64 tickp1) := (hb13.cell (p := ⟨w7.heap.size, 1, none⟩) (by show w7.heap.size < _; omega)).trans ekx1_1; have ekx1_2 : w13.cell? ⟨w7.heap.size, 2, none⟩ = some (.int .i64 firstp1) := (hb13.cell (p := ⟨w7.heap.size, 2, none⟩) (by show w7.heap.size < _; omega)).trans ekx1_2; have ekx1_3 : w13.cell? ⟨w7.heap.size, 3, none⟩ = some (.slice A7 np1 c7) := (hb13.cell (p := ⟨w7.heap.size, 3, none⟩) (by show w7.heap.size < _; omega)).trans ekx1_3; have ekx1_4 : w13.cell? ⟨w7.heap.size, 4, none⟩ = some (.slice D7 mp1 d7) := (hb13.cell (p := ⟨w7.heap.size, 4, none⟩) (by show w7.heap.size < _; omega)).trans ekx1_4; have ekx1_5 : w13.cell? ⟨w7.heap.size, 5, none⟩ = some (.int .i64 stp1) := (hb13.cell (p := ⟨w7.heap.size, 5, none⟩) (by show w7.heap.size < _; omega)).trans ekx1_5; have ekx1_6 : w13.cell? ⟨w7.heap.size, 6, none⟩ = some (.int .i64 sump1) := (hb13.cell (p := ⟨w7.heap.size, 6, none⟩) (by show w7.heap.size < _; omega)).trans ekx1_6; have ekx1_7 : w13.cell? ⟨w7.heap.size, 7, none⟩ = some (.int .i64 timep1) := (hb13.cell (p := ⟨w7.heap.size, 7, none⟩) (by show w7.heap.size < _; omega)).trans ekx1_7; have ekx1_8 : w13.cell? ⟨w7.heap.size, 8, none⟩ = some (.int .i64 echop1) := (hb13.cell (p := ⟨w7.heap.size, 8, none⟩) (by show w7.heap.size < _; omega)).trans ekx1_8; have ekaP_0 : w13.cell? ⟨w.heap.size, 0, none⟩ = some (.int .i64 ap1) := (hb13.cell (p := ⟨w.heap.size, 0, none⟩) (by show w.heap.size < _; omega)).trans ekaP_0; have ekaP_1 : w13.cell? ⟨w.heap.size, 1, none⟩ = some (.int .i64 tickp1) := (hb13.cell (p := ⟨w.heap.size, 1, none⟩) (by show w.heap.size < _; omega)).trans ekaP_1; have ekaP_2 : w13.cell? ⟨w.heap.size, 2, none⟩ = some (.int .i64 firstp1) := (hb13.cell (p := ⟨w.heap.size, 2, none⟩) (by show w.heap.size < _; omega)).trans ekaP_2; have ekaP_3 : w13.cell? ⟨w.heap.size, 3, none⟩ = some (.slice Ap1 np1 cp1) := (hb13.cell (p := ⟨w.heap.size, 3, none⟩) (by show w.heap.size < _; omega)).trans ekaP_3; have ekaP_4 : w13.cell? ⟨w.heap.size, 4, none⟩ = some (.slice Dp1 mp1 dp1) := (hb13.cell (p := ⟨w.heap.size, 4, none⟩) (by show w.heap.size < _; omega)).trans ekaP_4; have ekaP_5 : w13.cell? ⟨w.heap.size, 5, none⟩ = some (.int .i64 stp1) := (hb13.cell (p := ⟨w.heap.size, 5, none⟩) (by show w.heap.size < _; omega)).trans ekaP_5; have ekaP_6 : w13.cell? ⟨w.heap.size, 6, none⟩ = some (.int .i64 sump1) := (hb13.cell (p := ⟨w.heap.size, 6, none⟩) (by show w.heap.size < _; omega)).trans ekaP_6; have ekaP_7 : w13.cell? ⟨w.heap.size, 7, none⟩ = some (.int .i64 timep1) := (hb13.cell (p := ⟨w.heap.size, 7, none⟩) (by show w.heap.size < _; omega)).trans ekaP_7; have ekaP_8 : w13.cell? ⟨w.heap.size, 8, none⟩ = some (.int .i64 echop1) := (hb13.cell (p := ⟨w.heap.size, 8, none⟩) (by show w.heap.size < _; omega)).trans ekaP_8))
  replace O5 := (O5.drew.below hba (by show _ ≤ w11.heap.size; omega)).below hb13 (by omega)
  replace O6 := (O6.drew.below hba (by show _ ≤ w11.heap.size; omega)).below hb13 (by omega)
  replace O7 := (O7.drew.below hba (by show _ ≤ w11.heap.size; omega)).below hb13 (by omega)
  replace O8 := (O8.drew.below hba (by show _ ≤ w11.heap.size; omega)).below hb13 (by omega)
  replace kaP_0 : w13.cell? ⟨w.heap.size, 0, none⟩ = some (.int .i64 ap1) := (hb13.cell (p := ⟨w.heap.size, 0, none⟩) (by show w.heap.size < _; omega)).trans ((hba.cell (p := ⟨w.heap.size, 0, none⟩) (by show w.heap.size < w11.heap.size; omega)).trans kaP_0)
  replace kaP_1 : w13.cell? ⟨w.heap.size, 1, none⟩ = some (.int .i64 tickp1) := (hb13.cell (p := ⟨w.heap.size, 1, none⟩) (by show w.heap.size < _; omega)).trans ((hba.cell (p := ⟨w.heap.size, 1, none⟩) (by show w.heap.size < w11.heap.size; omega)).trans kaP_1)
  replace kaP_2 : w13.cell? ⟨w.heap.size, 2, none⟩ = some (.int .i64 firstp1) := (hb13.cell (p := ⟨w.heap.size, 2, none⟩) (by show w.heap.size < _; omega)).trans ((hba.cell (p := ⟨w.heap.size, 2, none⟩) (by show w.heap.size < w11.heap.size; omega)).trans kaP_2)
  replace kaP_3 : w13.cell? ⟨w.heap.size, 3, none⟩ = some (.slice Ap1 np1 cp1) := (hb13.cell (p := ⟨w.heap.size, 3, none⟩) (by show w.heap.size < _; omega)).trans ((hba.cell (p := ⟨w.heap.size, 3, none⟩) (by show w.heap.size < w11.heap.size; omega)).trans kaP_3)
  replace kaP_4 : w13.cell? ⟨w.heap.size, 4, none⟩ = some (.slice Dp1 mp1 dp1) := (hb13.cell (p := ⟨w.heap.size, 4, none⟩) (by show w.heap.size < _; omega)).trans ((hba.cell (p := ⟨w.heap.size, 4, none⟩) (by show w.heap.size < w11.heap.size; omega)).trans kaP_4)
  replace kaP_5 : w13.cell? ⟨w.heap.size, 5, none⟩ = some (.int .i64 stp1) := (hb13.cell (p := ⟨w.heap.size, 5, none⟩) (by show w.heap.size < _; omega)).trans ((hba.cell (p := ⟨w.heap.size, 5, none⟩) (by show w.heap.size < w11.heap.size; omega)).trans kaP_5)
  replace kaP_6 : w13.cell? ⟨w.heap.size, 6, none⟩ = some (.int .i64 sump1) := (hb13.cell (p := ⟨w.heap.size, 6, none⟩) (by show w.heap.size < _; omega)).trans ((hba.cell (p := ⟨w.heap.size, 6, none⟩) (by show w.heap.size < w11.heap.size; omega)).trans kaP_6)
  replace kaP_7 : w13.cell? ⟨w.heap.size, 7, none⟩ = some (.int .i64 timep1) := (hb13.cell (p := ⟨w.heap.size, 7, none⟩) (by show w.heap.size < _; omega)).trans ((hba.cell (p := ⟨w.heap.size, 7, none⟩) (by show w.heap.size < w11.heap.size; omega)).trans kaP_7)
  replace kaP_8 : w13.cell? ⟨w.heap.size, 8, none⟩ = some (.int .i64 echop1) := (hb13.cell (p := ⟨w.heap.size, 8, none⟩) (by show w.heap.size < _; omega)).trans ((hba.cell (p := ⟨w.heap.size, 8, none⟩) (by show w.heap.size < w11.heap.size; omega)).trans kaP_8)
  have zzaP13 : w.heap.size < w13.heap.size := by omega
  clear zzaP11
  replace kx1_0 : w13.cell? ⟨w7.heap.size, 0, none⟩ = some (.int .i64 ap1) := (hb13.cell (p := ⟨w7.heap.size, 0, none⟩) (by show w7.heap.size < _; omega)).trans ((hba.cell (p := ⟨w7.heap.size, 0, none⟩) (by show w7.heap.size < w11.heap.size; omega)).trans kx1_0)
  replace kx1_1 : w13.cell? ⟨w7.heap.size, 1, none⟩ = some (.int .i64 tickp1) := (hb13.cell (p := ⟨w7.heap.size, 1, none⟩) (by show w7.heap.size < _; omega)).trans ((hba.cell (p := ⟨w7.heap.size, 1, none⟩) (by show w7.heap.size < w11.heap.size; omega)).trans kx1_1)
  replace kx1_2 : w13.cell? ⟨w7.heap.size, 2, none⟩ = some (.int .i64 firstp1) := (hb13.cell (p := ⟨w7.heap.size, 2, none⟩) (by show w7.heap.size < _; omega)).trans ((hba.cell (p := ⟨w7.heap.size, 2, none⟩) (by show w7.heap.size < w11.heap.size; omega)).trans kx1_2)
  replace kx1_3 : w13.cell? ⟨w7.heap.size, 3, none⟩ = some (.slice A7 np1 c7) := (hb13.cell (p := ⟨w7.heap.size, 3, none⟩) (by show w7.heap.size < _; omega)).trans ((hba.cell (p := ⟨w7.heap.size, 3, none⟩) (by show w7.heap.size < w11.heap.size; omega)).trans kx1_3)
  replace kx1_4 : w13.cell? ⟨w7.heap.size, 4, none⟩ = some (.slice D7 mp1 d7) := (hb13.cell (p := ⟨w7.heap.size, 4, none⟩) (by show w7.heap.size < _; omega)).trans ((hba.cell (p := ⟨w7.heap.size, 4, none⟩) (by show w7.heap.size < w11.heap.size; omega)).trans kx1_4)
  replace kx1_5 : w13.cell? ⟨w7.heap.size, 5, none⟩ = some (.int .i64 stp1) := (hb13.cell (p := ⟨w7.heap.size, 5, none⟩) (by show w7.heap.size < _; omega)).trans ((hba.cell (p := ⟨w7.heap.size, 5, none⟩) (by show w7.heap.size < w11.heap.size; omega)).trans kx1_5)
  replace kx1_6 : w13.cell? ⟨w7.heap.size, 6, none⟩ = some (.int .i64 sump1) := (hb13.cell (p := ⟨w7.heap.size, 6, none⟩) (by show w7.heap.size < _; omega)).trans ((hba.cell (p := ⟨w7.heap.size, 6, none⟩) (by show w7.heap.size < w11.heap.size; omega)).trans kx1_6)
  replace kx1_7 : w13.cell? ⟨w7.heap.size, 7, none⟩ = some (.int .i64 timep1) := (hb13.cell (p := ⟨w7.heap.size, 7, none⟩) (by show w7.heap.size < _; omega)).trans ((hba.cell (p := ⟨w7.heap.size, 7, none⟩) (by show w7.heap.size < w11.heap.size; omega)).trans kx1_7)
  replace kx1_8 : w13.cell? ⟨w7.heap.size, 8, none⟩ = some (.int .i64 echop1) := (hb13.cell (p := ⟨w7.heap.size, 8, none⟩) (by show w7.heap.size < _; omega)).trans ((hba.cell (p := ⟨w7.heap.size, 8, none⟩) (by show w7.heap.size < w11.heap.size; omega)).trans kx1_8)
  have zzx113 : w7.heap.size < w13.heap.size := by omega
  clear zzx111
  clear ekx1_0
  clear ekx1_1
  clear ekx1_2
  clear ekx1_3
  clear ekx1_4
  clear ekx1_5
  clear ekx1_6
  clear ekx1_7
  clear ekx1_8
  clear ekaP_0
  clear ekaP_1
  clear ekaP_2
  clear ekaP_3
  clear ekaP_4
  clear ekaP_5
  clear ekaP_6
  clear ekaP_7
  clear ekaP_8
  clear hba Oa Ox hsa HBa hxd
  go_wp2_with fail
  refine (lm_TrackS (1) _ O6 (by omega) (by omega)).mono ?_
  clear O6
  rintro e w14 ⟨rfl, ht14, O6⟩
  have hs14 : w13.heap.size ≤ w14.heap.size := ht14.size
  have HB14 := HB13.trans (ht14.below (by omega) HB13.size)
  replace O5 := O5.touch ht14 (by omega)
  replace O7 := O7.touch ht14 (by omega)
  replace O8 := O8.touch ht14 (by omega)
  replace kaP_0 : w14.cell? ⟨w.heap.size, 0, none⟩ = some (.int .i64 ap1) := (ht14.cell (p := ⟨w.heap.size, 0, none⟩) (by show w.heap.size < _; omega) (by show w.heap.size < _ ∨ _ ≤ w.heap.size; omega)).trans kaP_0
  replace kaP_1 : w14.cell? ⟨w.heap.size, 1, none⟩ = some (.int .i64 tickp1) := (ht14.cell (p := ⟨w.heap.size, 1, none⟩) (by show w.heap.size < _; omega) (by show w.heap.size < _ ∨ _ ≤ w.heap.size; omega)).trans kaP_1
  replace kaP_2 : w14.cell? ⟨w.heap.size, 2, none⟩ = some (.int .i64 firstp1) := (ht14.cell (p := ⟨w.heap.size, 2, none⟩) (by show w.heap.size < _; omega) (by show w.heap.size < _ ∨ _ ≤ w.heap.size; omega)).trans kaP_2
  replace kaP_3 : w14.cell? ⟨w.heap.size, 3, none⟩ = some (.slice Ap1 np1 cp1) := (ht14.cell (p := ⟨w.heap.size, 3, none⟩) (by show w.heap.size < _; omega) (by show w.heap.size < _ ∨ _ ≤ w.heap.size; omega)).trans kaP_3
  replace kaP_4 : w14.cell? ⟨w.heap.size, 4, none⟩ = some (.slice Dp1 mp1 dp1) := (ht14.cell (p := ⟨w.heap.size, 4, none⟩) (by show w.heap.size < _; omega) (by show w.heap.size < _ ∨ _ ≤ w.heap.size; omega)).trans kaP_4
  replace kaP_5 : w14.cell? ⟨w.heap.size, 5, none⟩ = some (.int .i64 stp1) := (ht14.cell (p := ⟨w.heap.size, 5, none⟩) (by show w.heap.size < _; omega) (by show w.heap.size < _ ∨ _ ≤ w.heap.size; omega)).trans kaP_5
  replace kaP_6 : w14.cell? ⟨w.heap.size, 6, none⟩ = some (.int .i64 sump1) := (ht14.cell (p := ⟨w.heap.size, 6, none⟩) (by show w.heap.size < _; omega) (by show w.heap.size < _ ∨ _ ≤ w.heap.size; omega)).trans kaP_6
  replace kaP_7 : w14.cell? ⟨w.heap.size, 7, none⟩ = some (.int .i64 timep1) := (ht14.cell (p := ⟨w.heap.size, 7, none⟩) (by show w.heap.size < _; omega) (by show w.heap.size < _ ∨ _ ≤ w.heap.size; omega)).trans kaP_7
  replace kaP_8 : w14.cell? ⟨w.heap.size, 8, none⟩ = some (.int .i64 echop1) := (ht14.cell (p := ⟨w.heap.size, 8, none⟩) (by show w.heap.size < _; omega) (by show w.heap.size < _ ∨ _ ≤ w.heap.size; omega)).trans kaP_8
  have zzaP14 : w.heap.size < w14.heap.size := by omega
  clear zzaP13
  replace kx1_0 : w14.cell? ⟨w7.heap.size, 0, none⟩ = some (.int .i64 ap1) := (ht14.cell (p := ⟨w7.heap.size, 0, none⟩) (by show w7.heap.size < _; omega) (by show w7.heap.size < _ ∨ _ ≤ w7.heap.size; omega)).trans kx1_0
  replace kx1_1 : w14.cell? ⟨w7.heap.size, 1, none⟩ = some (.int .i64 tickp1) := (ht14.cell (p := ⟨w7.heap.size, 1, none⟩) (by show w7.heap.size < _; omega) (by show w7.heap.size < _ ∨ _ ≤ w7.heap.size; omega)).trans kx1_1
  replace kx1_2 : w14.cell? ⟨w7.heap.size, 2, none⟩ = some (.int .i64 firstp1) := (ht14.cell (p := ⟨w7.heap.size, 2, none⟩) (by show w7.heap.size < _; omega) (by show w7.heap.size < _ ∨ _ ≤ w7.heap.size; omega)).trans kx1_2
  replace kx1_3 : w14.cell? ⟨w7.heap.size, 3, none⟩ = some (.slice A7 np1 c7) := (ht14.cell (p := ⟨w7.heap.size, 3, none⟩) (by show w7.heap.size < _; omega) (by show w7.heap.size < _ ∨ _ ≤ w7.heap.size; omega)).trans kx1_3
  replace kx1_4 : w14.cell? ⟨w7.heap.size, 4, none⟩ = some (.slice D7 mp1 d7) := (ht14.cell (p := ⟨w7.heap.size, 4, none⟩) (by show w7.heap.size < _; omega) (by show w7.heap.size < _ ∨ _ ≤ w7.heap.size; omega)).trans kx1_4
  replace kx1_5 : w14.cell? ⟨w7.heap.size, 5, none⟩ = some (.int .i64 stp1) := (ht14.cell (p := ⟨w7.heap.size, 5, none⟩) (by show w7.heap.size < _; omega) (by show w7.heap.size < _ ∨ _ ≤ w7.heap.size; omega)).trans kx1_5
  replace kx1_6 : w14.cell? ⟨w7.heap.size, 6, none⟩ = some (.int .i64 sump1) := (ht14.cell (p := ⟨w7.heap.size, 6, none⟩) (by show w7.heap.size < _; omega) (by show w7.heap.size < _ ∨ _ ≤ w7.heap.size; omega)).trans kx1_6
  replace kx1_7 : w14.cell? ⟨w7.heap.size, 7, none⟩ = some (.int .i64 timep1) := (ht14.cell (p := ⟨w7.heap.size, 7, none⟩) (by show w7.heap.size < _; omega) (by show w7.heap.size < _ ∨ _ ≤ w7.heap.size; omega)).trans kx1_7
  replace kx1_8 : w14.cell? ⟨w7.heap.size, 8, none⟩ = some (.int .i64 echop1) := (ht14.cell (p := ⟨w7.heap.size, 8, none⟩) (by show w7.heap.size < _; omega) (by show w7.heap.size < _ ∨ _ ≤ w7.heap.size; omega)).trans kx1_8
  have zzx114 : w7.heap.size < w14.heap.size := by omega
  clear zzx113
  go_wp2_with fail
  refine (lm_Packet (1 + (sumLen tsp0 : Nat)) _ O7 (by omega) (by omega)).mono ?_
  clear O7
  rintro e w15 ⟨rfl, ht15, O7⟩
  have hs15 : w14.heap.size ≤ w15.heap.size := ht15.size
  have HB15 := HB14.trans (ht15.below (by omega) HB14.size)
  replace O5 := O5.touch ht15 (by omega)
  replace O6 := O6.touch ht15 (by omega)
  replace O8 := O8.touch ht15 (by omega)
  replace kaP_0 : w15.cell? ⟨w.heap.size, 0, none⟩ = some (.int .i64 ap1) := (ht15.cell (p := ⟨w.heap.size, 0, none⟩) (by show w.heap.size < _; omega) (by show w.heap.size < _ ∨ _ ≤ w.heap.size; omega)).trans kaP_0
  replace kaP_1 : w15.cell? ⟨w.heap.size, 1, none⟩ = some (.int .i64 tickp1) := (ht15.cell (p := ⟨w.heap.size, 1, none⟩) (by show w.heap.size < _; omega) (by show w.heap.size < _ ∨ _ ≤ w.heap.size; omega)).trans kaP_1
  replace kaP_2 : w15.cell? ⟨w.heap.size, 2, none⟩ = some (.int .i64 firstp1) := (ht15.cell (p := ⟨w.heap.size, 2, none⟩) (by show w.heap.size < _; omega) (by show w.heap.size < _ ∨ _ ≤ w.heap.size; omega)).trans kaP_2
  replace kaP_3 : w15.cell? ⟨w.heap.size, 3, none⟩ = some (.slice Ap1 np1 cp1) := (ht15.cell (p := ⟨w.heap.size, 3, none⟩) (by show w.heap.size < _; omega) (by show w.heap.size < _ ∨ _ ≤ w.heap.size; omega)).trans kaP_3
  replace kaP_4 : w15.cell? ⟨w.heap.size, 4, none⟩ = some (.slice Dp1 mp1 dp1) := (ht15.cell (p := ⟨w.heap.size, 4, none⟩) (by show w.heap.size < _; omega) (by show w.heap.size < _ ∨ _ ≤ w.heap.size; omega)).trans kaP_4
  replace kaP_5 : w15.cell? ⟨w.heap.size, 5, none⟩ = some (.int .i64 stp1) := (ht15.cell (p := ⟨w.heap.size, 5, none⟩) (by show w.heap.size < _; omega) (by show w.heap.size < _ ∨ _ ≤ w.heap.size; omega)).trans kaP_5
  replace kaP_6 : w15.cell? ⟨w.heap.size, 6, none⟩ = some (.int .i64 sump1) := (ht15.cell (p := ⟨w.heap.size, 6, none⟩) (by show w.heap.size < _; omega) (by show w.heap.size < _ ∨ _ ≤ w.heap.size; omega)).trans kaP_6
  replace kaP_7 : w15.cell? ⟨w.heap.size, 7, none⟩ = some (.int .i64 timep1) := (ht15.cell (p := ⟨w.heap.size, 7, none⟩) (by show w.heap.size < _; omega) (by show w.heap.size < _ ∨ _ ≤ w.heap.size; omega)).trans kaP_7
  replace kaP_8 : w15.cell? ⟨w.heap.size, 8, none⟩ = some (.int .i64 echop1) := (ht15.cell (p := ⟨w.heap.size, 8, none⟩) (by show w.heap.size < _; omega) (by show w.heap.size < _ ∨ _ ≤ w.heap.size; omega)).trans kaP_8
  have zzaP15 : w.heap.size < w15.heap.size := by omega
  clear zzaP14
  replace kx1_0 : w15.cell? ⟨w7.heap.size, 0, none⟩ = some (.int .i64 ap1) := (ht15.cell (p := ⟨w7.heap.size, 0, none⟩) (by show w7.heap.size < _; omega) (by show w7.heap.size < _ ∨ _ ≤ w7.heap.size; omega)).trans kx1_0
  replace kx1_1 : w15.cell? ⟨w7.heap.size, 1, none⟩ = some (.int .i64 tickp1) := (ht15.cell (p := ⟨w7.heap.size, 1, none⟩) (by show w7.heap.size < _; omega) (by show w7.heap.size < _ ∨ _ ≤ w7.heap.size; omega)).trans kx1_1
  replace kx1_2 : w15.cell? ⟨w7.heap.size, 2, none⟩ = some (.int .i64 firstp1) := (ht15.cell (p := ⟨w7.heap.size, 2, none⟩) (by show w7.heap.size < _; omega) (by show w7.heap.size < _ ∨ _ ≤ w7.heap.size; omega)).trans kx1_2
  replace kx1_3 : w15.cell? ⟨w7.heap.size, 3, none⟩ = some (.slice A7 np1 c7) := (ht15.cell (p := ⟨w7.heap.size, 3, none⟩) (by show w7.heap.size < _; omega) (by show w7.heap.size < _ ∨ _ ≤ w7.heap.size; omega)).trans kx1_3
  replace kx1_4 : w15.cell? ⟨w7.heap.size, 4, none⟩ = some (.slice D7 mp1 d7) := (ht15.cell (p := ⟨w7.heap.size, 4, none⟩) (by show w7.heap.size < _; omega) (by show w7.heap.size < _ ∨ _ ≤ w7.heap.size; omega)).trans kx1_4
  replace kx1_5 : w15.cell? ⟨w7.heap.size, 5, none⟩ = some (.int .i64 stp1) := (ht15.cell (p := ⟨w7.heap.size, 5, none⟩) (by show w7.heap.size < _; omega) (by show w7.heap.size < _ ∨ _ ≤ w7.heap.size; omega)).trans kx1_5
  replace kx1_6 : w15.cell? ⟨w7.heap.size, 6, none⟩ = some (.int .i64 sump1) := (ht15.cell (p := ⟨w7.heap.size, 6, none⟩) (by show w7.heap.size < _; omega) (by show w7.heap.size < _ ∨ _ ≤ w7.heap.size; omega)).trans kx1_6
  replace kx1_7 : w15.cell? ⟨w7.heap.size, 7, none⟩ = some (.int .i64 timep1) := (ht15.cell (p := ⟨w7.heap.size, 7, none⟩) (by show w7.heap.size < _; omega) (by show w7.heap.size < _ ∨ _ ≤ w7.heap.size; omega)).trans kx1_7
  replace kx1_8 : w15.cell? ⟨w7.heap.size, 8, none⟩ = some (.int .i64 echop1) := (ht15.cell (p := ⟨w7.heap.size, 8, none⟩) (by show w7.heap.size < _; omega) (by show w7.heap.size < _ ∨ _ ≤ w7.heap.size; omega)).trans kx1_8
  have zzx115 : w7.heap.size < w15.heap.size := by omega
  clear zzx114
  go_wp2_with fail
  refine (le_TrackS _ (Nat.le_refl _) (O8).rdw (O5).rdw).mono ?_
  rintro e w16 ⟨rfl, hb16⟩
  have hs16 : w15.heap.size ≤ w16.heap.size := by have := hb16.size; (try simp at this); omega
  have HB16 := HB15.trans (hb16.mono HB15.size)
  replace O5 := (O5).below hb16 (by first | omega | (simp; omega) | simp)
  replace O6 := (O6).below hb16 (by first | omega | (simp; omega) | simp)
  replace O7 := (O7).below hb16 (by first | omega | (simp; omega) | simp)
  replace O8 := (O8).below hb16 (by first | omega | (simp; omega) | simp)
  replace kaP_0 : w16.cell? ⟨w.heap.size, 0, none⟩ = some (.int .i64 ap1) := (hb16.cell (p := ⟨w.heap.size, 0, none⟩) (by show w.heap.size < _; first | omega | (simp; omega) | simp)).trans kaP_0
  replace kaP_1 : w16.cell? ⟨w.heap.size, 1, none⟩ = some (.int .i64 tickp1) := (hb16.cell (p := ⟨w.heap.size, 1, none⟩) (by show w.heap.size < _; first | omega | (simp; omega) | simp)).trans kaP_1
  replace kaP_2 : w16.cell? ⟨w.heap.size, 2, none⟩ = some (.int .i64 firstp1) := (hb16.cell (p := ⟨w.heap.size, 2, none⟩) (by show w.heap.size < _; first | omega | (simp; omega) | simp)).trans kaP_2
  replace kaP_3 : w16.cell? ⟨w.heap.size, 3, none⟩ = some (.slice Ap1 np1 cp1) := (hb16.cell (p := ⟨w.heap.size, 3, none⟩) (by show w.heap.size < _; first | omega | (simp; omega) | simp)).trans kaP_3
  replace kaP_4 : w16.cell? ⟨w.heap.size, 4, none⟩ = some (.slice Dp1 mp1 dp1) := (hb16.cell (p := ⟨w.heap.size, 4, none⟩) (by show w.heap.size < _; first | omega | (simp; omega) | simp)).trans kaP_4
  replace kaP_5 : w16.cell? ⟨w.heap.size, 5, none⟩ = some (.int .i64 stp1) := (hb16.cell (p := ⟨w.heap.size, 5, none⟩) (by show w.heap.size < _; first | omega | (simp; omega) | simp)).trans kaP_5
  replace kaP_6 : w16.cell? ⟨w.heap.size, 6, none⟩ = some (.int .i64 sump1) := (hb16.cell (p := ⟨w.heap.size, 6, none⟩) (by show w.heap.size < _; first | omega | (simp; omega) | simp)).trans kaP_6
  replace kaP_7 : w16.cell? ⟨w.heap.size, 7, none⟩ = some (.int .i64 timep1) := (hb16.cell (p := ⟨w.heap.size, 7, none⟩) (by show w.heap.size < _; first | omega | (simp; omega) | simp)).trans kaP_7
  replace kaP_8 : w16.cell? ⟨w.heap.size, 8, none⟩ = some (.int .i64 echop1) := (hb16.cell (p := ⟨w.heap.size, 8, none⟩) (by show w.heap.size < _; first | omega | (simp; omega) | simp)).trans kaP_8
  have zzaP16 : w.heap.size < w16.heap.size := by omega
  clear zzaP15
  replace kx1_0 : w16.cell? ⟨w7.heap.size, 0, none⟩ = some (.int .i64 ap1) := (hb16.cell (p := ⟨w7.heap.size, 0, none⟩) (by show w7.heap.size < _; first | omega | (simp; omega) | simp)).trans kx1_0
  replace kx1_1 : w16.cell? ⟨w7.heap.size, 1, none⟩ = some (.int .i64 tickp1) := (hb16.cell (p := ⟨w7.heap.size, 1, none⟩) (by show w7.heap.size < _; first | omega | (simp; omega) | simp)).trans kx1_1
  replace kx1_2 : w16.cell? ⟨w7.heap.size, 2, none⟩ = some (.int .i64 firstp1) := (hb16.cell (p := ⟨w7.heap.size, 2, none⟩) (by show w7.heap.size < _; first | omega | (simp; omega) | simp)).trans kx1_2
  replace kx1_3 : w16.cell? ⟨w7.heap.size, 3, none⟩ = some (.slice A7 np1 c7) := (hb16.cell (p := ⟨w7.heap.size, 3, none⟩) (by show w7.heap.size < _; first | omega | (simp; omega) | simp)).trans kx1_3
  replace kx1_4 : w16.cell? ⟨w7.heap.size, 4, none⟩ = some (.slice D7 mp1 d7) := (hb16.cell (p := ⟨w7.heap.size, 4, none⟩) (by show w7.heap.size < _; first | omega | (simp; omega) | simp)).trans kx1_4
  replace kx1_5 : w16.cell? ⟨w7.heap.size, 5, none⟩ = some (.int .i64 stp1) := (hb16.cell (p := ⟨w7.heap.size, 5, none⟩) (by show w7.heap.size < _; first | omega | (simp; omega) | simp)).trans kx1_5
  replace kx1_6 : w16.cell? ⟨w7.heap.size, 6, none⟩ = some (.int .i64 sump1) := (hb16.cell (p := ⟨w7.heap.size, 6, none⟩) (by show w7.heap.size < _; first | omega | (simp; omega) | simp)).trans kx1_6
  replace kx1_7 : w16.cell? ⟨w7.heap.size, 7, none⟩ = some (.int .i64 timep1) := (hb16.cell (p := ⟨w7.heap.size, 7, none⟩) (by show w7.heap.size < _; first | omega | (simp; omega) | simp)).trans kx1_7
  replace kx1_8 : w16.cell? ⟨w7.heap.size, 8, none⟩ = some (.int .i64 echop1) := (hb16.cell (p := ⟨w7.heap.size, 8, none⟩) (by show w7.heap.size < _; first | omega | (simp; omega) | simp)).trans kx1_8
  have zzx116 : w7.heap.size < w16.heap.size := by omega
  clear zzx115
  go_wp2_with fail
  refine (lm_TrackS (1) _ O8 (by omega) (by omega)).mono ?_
  clear O8
  rintro e w17 ⟨rfl, ht17, O8⟩
  have hs17 : w16.heap.size ≤ w17.heap.size := ht17.size
  have HB17 := HB16.trans (ht17.below (by omega) HB16.size)
  replace O5 := O5.touch ht17 (by omega)
  replace O6 := O6.touch ht17 (by omega)
  replace O7 := O7.touch ht17 (by omega)
  replace kaP_0 : w17.cell? ⟨w.heap.size, 0, none⟩ = some (.int .i64 ap1) := (ht17.cell (p := ⟨w.heap.size, 0, none⟩) (by show w.heap.size < _; omega) (by show w.heap.size < _ ∨ _ ≤ w.heap.size; omega)).trans kaP_0
  replace kaP_1 : w17.cell? ⟨w.heap.size, 1, none⟩ = some (.int .i64 tickp1) := (ht17.cell (p := ⟨w.heap.size, 1, none⟩) (by show w.heap.size < _; omega) (by show w.heap.size < _ ∨ _ ≤ w.heap.size; omega)).trans kaP_1
  replace kaP_2 : w17.cell? ⟨w.heap.size, 2, none⟩ = some (.int .i64 firstp1) := (ht17.cell (p := ⟨w.heap.size, 2, none⟩) (by show w.heap.size < _; omega) (by show w.heap.size < _ ∨ _ ≤ w.heap.size; omega)).trans kaP_2
  replace kaP_3 : w17.cell? ⟨w.heap.size, 3, none⟩ = some (.slice Ap1 np1 cp1) := (ht17.cell (p := ⟨w.heap.size, 3, none⟩) (by show w.heap.size < _; omega) (by show w.heap.size < _ ∨ _ ≤ w.heap.size; omega)).trans kaP_3
  replace kaP_4 : w17.cell? ⟨w.heap.size, 4, none⟩ = some (.slice Dp1 mp1 dp1) := (ht17.cell (p := ⟨w.heap.size, 4, none⟩) (by show w.heap.size < _; omega) (by show w.heap.size < _ ∨ _ ≤ w.heap.size; omega)).trans kaP_4
  replace kaP_5 : w17.cell? ⟨w.heap.size, 5, none⟩ = some (.int .i64 stp1) := (ht17.cell (p := ⟨w.heap.size, 5, none⟩) (by show w.heap.size < _; omega) (by show w.heap.size < _ ∨ _ ≤ w.heap.size; omega)).trans kaP_5
  replace kaP_6 : w17.cell? ⟨w.heap.size, 6, none⟩ = some (.int .i64 sump1) := (ht17.cell (p := ⟨w.heap.size, 6, none⟩) (by show w.heap.size < _; omega) (by show w.heap.size < _ ∨ _ ≤ w.heap.size; omega)).trans kaP_6
  replace kaP_7 : w17.cell? ⟨w.heap.size, 7, none⟩ = some (.int .i64 timep1) := (ht17.cell (p := ⟨w.heap.size, 7, none⟩) (by show w.heap.size < _; omega) (by show w.heap.size < _ ∨ _ ≤ w.heap.size; omega)).trans kaP_7
  replace kaP_8 : w17.cell? ⟨w.heap.size, 8, none⟩ = some (.int .i64 echop1) := (ht17.cell (p := ⟨w.heap.size, 8, none⟩) (by show w.heap.size < _; omega) (by show w.heap.size < _ ∨ _ ≤ w.heap.size; omega)).trans kaP_8
  have zzaP17 : w.heap.size < w17.heap.size := by omega
  clear zzaP16
  replace kx1_0 : w17.cell? ⟨w7.heap.size, 0, none⟩ = some (.int .i64 ap1) := (ht17.cell (p := ⟨w7.heap.size, 0, none⟩) (by show w7.heap.size < _; omega) (by show w7.heap.size < _ ∨ _ ≤ w7.heap.size; omega)).trans kx1_0
  replace kx1_1 : w17.cell? ⟨w7.heap.size, 1, none⟩ = some (.int .i64 tickp1) := (ht17.cell (p := ⟨w7.heap.size, 1, none⟩) (by show w7.heap.size < _; omega) (by show w7.heap.size < _ ∨ _ ≤ w7.heap.size; omega)).trans kx1_1
  replace kx1_2 : w17.cell? ⟨w7.heap.size, 2, none⟩ = some (.int .i64 firstp1) := (ht17.cell (p := ⟨w7.heap.size, 2, none⟩) (by show w7.heap.size < _; omega) (by show w7.heap.size < _ ∨ _ ≤ w7.heap.size; omega)).trans kx1_2
  replace kx1_3 : w17.cell? ⟨w7.heap.size, 3, none⟩ = some (.slice A7 np1 c7) := (ht17.cell (p := ⟨w7.heap.size, 3, none⟩) (by show w7.heap.size < _; omega) (by show w7.heap.size < _ ∨ _ ≤ w7.heap.size; omega)).trans kx1_3
  replace kx1_4 : w17.cell? ⟨w7.heap.size, 4, none⟩ = some (.slice D7 mp1 d7) := (ht17.cell (p := ⟨w7.heap.size, 4, none⟩) (by show w7.heap.size < _; omega) (by show w7.heap.size < _ ∨ _ ≤ w7.heap.size; omega)).trans kx1_4
  replace kx1_5 : w17.cell? ⟨w7.heap.size, 5, none⟩ = some (.int .i64 stp1) := (ht17.cell (p := ⟨w7.heap.size, 5, none⟩) (by show w7.heap.size < _; omega) (by show w7.heap.size < _ ∨ _ ≤ w7.heap.size; omega)).trans kx1_5
  replace kx1_6 : w17.cell? ⟨w7.heap.size, 6, none⟩ = some (.int .i64 sump1) := (ht17.cell (p := ⟨w7.heap.size, 6, none⟩) (by show w7.heap.size < _; omega) (by show w7.heap.size < _ ∨ _ ≤ w7.heap.size; omega)).trans kx1_6
  replace kx1_7 : w17.cell? ⟨w7.heap.size, 7, none⟩ = some (.int .i64 timep1) := (ht17.cell (p := ⟨w7.heap.size, 7, none⟩) (by show w7.heap.size < _; omega) (by show w7.heap.size < _ ∨ _ ≤ w7.heap.size; omega)).trans kx1_7
  replace kx1_8 : w17.cell? ⟨w7.heap.size, 8, none⟩ = some (.int .i64 echop1) := (ht17.cell (p := ⟨w7.heap.size, 8, none⟩) (by show w7.heap.size < _; omega) (by show w7.heap.size < _ ∨ _ ≤ w7.heap.size; omega)).trans kx1_8
  have zzx117 : w7.heap.size < w17.heap.size := by omega
  clear zzx116
  go_wp2_with fail
  refine (lh_TrackS (1) _ (Nat.le_refl _) (O8).rdw (by omega) (by omega)).mono ?_
  rintro e w18 ⟨rfl, hb18⟩
  have hs18 : w17.heap.size ≤ w18.heap.size := by have := hb18.size; (try simp at this); omega
  have HB18 := HB17.trans (hb18.mono HB17.size)
  replace O5 := (O5).below hb18 (by first | omega | (simp; omega) | simp)
  replace O6 := (O6).below hb18 (by first | omega | (simp; omega) | simp)
  replace O7 := (O7).below hb18 (by first | omega | (simp; omega) | simp)
  replace O8 := (O8).below hb18 (by first | omega | (simp; omega) | simp)
  replace kaP_0 : w18.cell? ⟨w.heap.size, 0, none⟩ = some (.int .i64 ap1) := (hb18.cell (p := ⟨w.heap.size, 0, none⟩) (by show w.heap.size < _; first | omega | (simp; omega) | simp)).trans kaP_0
  replace kaP_1 : w18.cell? ⟨w.heap.size, 1, none⟩ = some (.int .i64 tickp1) := (hb18.cell (p := ⟨w.heap.size, 1, none⟩) (by show w.heap.size < _; first | omega | (simp; omega) | simp)).trans kaP_1
  replace kaP_2 : w18.cell? ⟨w.heap.size, 2, none⟩ = some (.int .i64 firstp1) := (hb18.cell (p := ⟨w.heap.size, 2, none⟩) (by show w.heap.size < _; first | omega | (simp; omega) | simp)).trans kaP_2
  replace kaP_3 : w18.cell? ⟨w.heap.size, 3, none⟩ = some (.slice Ap1 np1 cp1) := (hb18.cell (p := ⟨w.heap.size, 3, none⟩) (by show w.heap.size < _; first | omega | (simp; omega) | simp)).trans kaP_3
  replace kaP_4 : w18.cell? ⟨w.heap.size, 4, none⟩ = some (.slice Dp1 mp1 dp1) := (hb18.cell (p := ⟨w.heap.size, 4, none⟩) (by show w.heap.size < _; first | omega | (simp; omega) | simp)).trans kaP_4
  replace kaP_5 : w18.cell? ⟨w.heap.size, 5, none⟩ = some (.int .i64 stp1) := (hb18.cell (p := ⟨w.heap.size, 5, none⟩) (by show w.heap.size < _; first | omega | (simp; omega) | simp)).trans kaP_5
  replace kaP_6 : w18.cell? ⟨w.heap.size, 6, none⟩ = some (.int .i64 sump1) := (hb18.cell (p := ⟨w.heap.size, 6, none⟩) (by show w.heap.size < _; first | omega | (simp; omega) | simp)).trans kaP_6
  replace kaP_7 : w18.cell? ⟨w.heap.size, 7, none⟩ = some (.int .i64 timep1) := (hb18.cell (p := ⟨w.heap.size, 7, none⟩) (by show w.heap.size < _; first | omega | (simp; omega) | simp)).trans kaP_7
  replace kaP_8 : w18.cell? ⟨w.heap.size, 8, none⟩ = some (.int .i64 echop1) := (hb18.cell (p := ⟨w.heap.size, 8, none⟩) (by show w.heap.size < _; first | omega | (simp; omega) | simp)).trans kaP_8
  have zzaP18 : w.heap.size < w18.heap.size := by omega
  clear zzaP17
  replace kx1_0 : w18.cell? ⟨w7.heap.size, 0, none⟩ = some (.int .i64 ap1) := (hb18.cell (p := ⟨w7.heap.size, 0, none⟩) (by show w7.heap.size < _; first | omega | (simp; omega) | simp)).trans kx1_0
  replace kx1_1 : w18.cell? ⟨w7.heap.size, 1, none⟩ = some (.int .i64 tickp1) := (hb18.cell (p := ⟨w7.heap.size, 1, none⟩) (by show w7.heap.size < _; first | omega | (simp; omega) | simp)).trans kx1_1
  replace kx1_2 : w18.cell? ⟨w7.heap.size, 2, none⟩ = some (.int .i64 firstp1) := (hb18.cell (p := ⟨w7.heap.size, 2, none⟩) (by show w7.heap.size < _; first | omega | (simp; omega) | simp)).trans kx1_2
  replace kx1_3 : w18.cell? ⟨w7.heap.size, 3, none⟩ = some (.slice A7 np1 c7) := (hb18.cell (p := ⟨w7.heap.size, 3, none⟩) (by show w7.heap.size < _; first | omega | (simp; omega) | simp)).trans kx1_3
  replace kx1_4 : w18.cell? ⟨w7.heap.size, 4, none⟩ = some (.slice D7 mp1 d7) := (hb18.cell (p := ⟨w7.heap.size, 4, none⟩) (by show w7.heap.size < _; first | omega | (simp; omega) | simp)).trans kx1_4
  replace kx1_5 : w18.cell? ⟨w7.heap.size, 5, none⟩ = some (.int .i64 stp1) := (hb18.cell (p := ⟨w7.heap.size, 5, none⟩) (by show w7.heap.size < _; first | omega | (simp; omega) | simp)).trans kx1_5
  replace kx1_6 : w18.cell? ⟨w7.heap.size, 6, none⟩ = some (.int .i64 sump1) := (hb18.cell (p := ⟨w7.heap.size, 6, none⟩) (by show w7.heap.size < _; first | omega | (simp; omega) | simp)).trans kx1_6
  replace kx1_7 : w18.cell? ⟨w7.heap.size, 7, none⟩ = some (.int .i64 timep1) := (hb18.cell (p := ⟨w7.heap.size, 7, none⟩) (by show w7.heap.size < _; first | omega | (simp; omega) | simp)).trans kx1_7
  replace kx1_8 : w18.cell? ⟨w7.heap.size, 8, none⟩ = some (.int .i64 echop1) := (hb18.cell (p := ⟨w7.heap.size, 8, none⟩) (by show w7.heap.size < _; first | omega | (simp; omega) | simp)).trans kx1_8
  have zzx118 : w7.heap.size < w18.heap.size := by omega
  clear zzx117
  go_wp2_with fail
  go_region_held3 (fun w' => w'.cell? ⟨w.heap.size, 0, none⟩ = some (.int .i64 ap1) ∧ w'.cell? ⟨w.heap.size, 1, none⟩ = some (.int .i64 tickp1) ∧ w'.cell? ⟨w.heap.size, 2, none⟩ = some (.int .i64 firstp1) ∧ w'.cell? ⟨w.heap.size, 3, none⟩ = some (.slice Ap1 np1 cp1) ∧ w'.cell? ⟨w.heap.size, 4, none⟩ = some (.slice Dp1 mp1 dp1) ∧ w'.cell? ⟨w.heap.size, 5, none⟩ = some (.int .i64 stp1) ∧ w'.cell? ⟨w.heap.size, 6, none⟩ = some (.int .i64 sump1) ∧ w'.cell? ⟨w.heap.size, 7, none⟩ = some (.int .i64 timep1) ∧ w'.cell? ⟨w.heap.size, 8, none⟩ = some (.int .i64 echop1))
    (first
      | go_keep
      | exact ⟨kaP_0, kaP_1, kaP_2, kaP_3, kaP_4, kaP_5, kaP_6, kaP_7, kaP_8⟩)
    (first
      | (go_at_call 77; refine (lt_TrackS (w18.drew) HB18.size (h0.below HB18.drew (Nat.le_refl _)) (by omega)).mono ?_; rintro e w19 ⟨A19, c19, rfl, O19, hb19⟩; have hs19 : w18.heap.size ≤ w19.heap.size := hb19.size; have HB19 := HB18.drew.trans (hb19.mono HB18.size); replace O5 := (O5.drew).below hb19 (by first | (show _ ≤ w18.heap.size; omega) | (simp; done) | (simp; omega)); replace O6 := (O6.drew).below hb19 (by first | (show _ ≤ w18.heap.size; omega) | (simp; done) | (simp; omega)); replace O7 := (O7.drew).below hb19 (by first | (show _ ≤ w18.heap.size; omega) | (simp; done) | (simp; omega)); replace O8 := (O8.drew).below hb19 (by first | (show _ ≤ w18.heap.size; omega) | (simp; done) | (simp; omega)); replace kaP_0 : w19.cell? ⟨w.heap.size, 0, none⟩ = some (.int .i64 ap1) := (hb19.cell (p := ⟨w.heap.size, 0, none⟩) (by show w.heap.size < _; first | (show w.heap.size < w18.heap.size; omega) | (simp; done) | (simp; omega))).trans kaP_0; replace kaP_1 : w19.cell? ⟨w.heap.size, 1, none⟩ = some (.int .i64 tickp1) := (hb19.cell (p := ⟨w.heap.size, 1, none⟩) (by show w.heap.size < _; first | (show w.heap.size < w18.heap.size; omega) | (simp; done) | (simp; omega))).trans kaP_1; replace kaP_2 : w19.cell? ⟨w.heap.size, 2, none⟩ = some (.int .i64 firstp1) := (hb19.cell (p := ⟨w.heap.size, 2, none⟩) (by show w.heap.size < _; first | (show w.heap.size < w18.heap.size; omega) | (simp; done) | (simp; omega))).trans kaP_2; replace kaP_3 : w19.cell? ⟨w.heap.size, 3, none⟩ = some (.slice Ap1 np1 cp1) := (hb19.cell (p := ⟨w.heap.size, 3, none⟩) (by show w.heap.size < _; first | (show w.heap.size < w18.heap.size; omega) | (simp; done) | (simp; omega))).trans kaP_3; replace kaP_4 : w19.cell? ⟨w.heap.size, 4, none⟩ = some (.slice Dp1 mp1 dp1) := (hb19.cell (p := ⟨w.heap.size, 4, none⟩) (by show w.heap.size < _; first | (show w.heap.size < w18.heap.size; omega) | (simp; done) | (simp; omega))).trans kaP_4; replace kaP_5 : w19.cell? ⟨w.heap.size, 5, none⟩ = some (.int .i64 stp1) := (hb19.cell (p := ⟨w.heap.size, 5, none⟩) (by show w.heap.size < _; first | (show w.heap.size < w18.heap.size; omega) | (simp; done) | (simp; omega))).trans kaP_5; replace kaP_6 : w19.cell? ⟨w.heap.size, 6, none⟩ = some (.int .i64 sump1) := (hb19.cell (p := ⟨w.heap.size, 6, none⟩) (by show w.heap.size < _; first | (show w.heap.size < w18.heap.size; omega) | (simp; done) | (simp; omega))).trans kaP_6; replace kaP_7 : w19.cell? ⟨w.heap.size, 7, none⟩ = some (.int .i64 timep1) := (hb19.cell (p := ⟨w.heap.size, 7, none⟩) (by show w.heap.size < _; first | (show w.heap.size < w18.heap.size; omega) | (simp; done) | (simp; omega))).trans kaP_7; replace kaP_8 : w19.cell? ⟨w.heap.size, 8, none⟩ = some (.int .i64 echop1) := (hb19.cell (p := ⟨w.heap.size, 8, none⟩) (by show w.heap.size < _; first | (show w.heap.size < w18.heap.size; omega) | (simp; done) | (simp; omega))).trans kaP_8; have zzaP19 : w.heap.size < w19.heap.size := (by omega); replace kx1_0 : w19.cell? ⟨w7.heap.size, 0, none⟩ = some (.int .i64 ap1) := (hb19.cell (p := ⟨w7.heap.size, 0, none⟩) (by show w7.heap.size < _; first | (show w7.heap.size < w18.heap.size; omega) | (simp; done) | (simp; omega))).trans kx1_0; replace kx1_1 : w19.cell? ⟨w7.heap.size, 1, none⟩ = some (.int .i64 tickp1) := (hb19.cell (p := ⟨w7.heap.size, 1, none⟩) (by show w7.heap.size < _; first | (show w7.heap.size < w18.heap.size; omega) | (simp; done) | (simp; omega))).trans kx1_1; replace kx1_2 : w19.cell? ⟨w7.heap.size, 2, none⟩ = some (.int .i64 firstp1) := (hb19.cell (p := ⟨w7.heap.size, 2, none⟩) (by show w7.heap.size < _; first | (show w7.heap.size < w18.heap.size; omega) | (simp; done) | (simp; omega))).trans kx1_2; replace kx1_3 : w19.cell? ⟨w7.heap.size, 3, none⟩ = some (.slice A7 np1 c7) := (hb19.cell (p := ⟨w7.heap.size, 3, none⟩) (by show w7.heap.size < _; first | (show w7.heap.size < w18.heap.size; omega) | (simp; done) | (simp; omega))).trans kx1_3; replace kx1_4 : w19.cell? ⟨w7.heap.size, 4, none⟩ = some (.slice D7 mp1 d7) := (hb19.cell (p := ⟨w7.heap.size, 4, none⟩) (by show w7.heap.size < _; first | (show w7.heap.size < w18.heap.size; omega) | (simp; done) | (simp; omega))).trans kx1_4; replace kx1_5 : w19.cell? ⟨w7.heap.size, 5, none⟩ = some (.int .i64 stp1) := (hb19.cell (p := ⟨w7.heap.size, 5, none⟩) (by show w7.heap.size < _; first | (show w7.heap.size < w18.heap.size; omega) | (simp; done) | (simp; omega))).trans kx1_5; replace kx1_6 : w19.cell? ⟨w7.heap.size, 6, none⟩ = some (.int .i64 sump1) := (hb19.cell (p := ⟨w7.heap.size, 6, none⟩) (by show w7.heap.size < _; first | (show w7.heap.size < w18.heap.size; omega) | (simp; done) | (simp; omega))).trans kx1_6; replace kx1_7 : w19.cell? ⟨w7.heap.size, 7, none⟩ = some (.int .i64 timep1) := (hb19.cell (p := ⟨w7.heap.size, 7, none⟩) (by show w7.heap.size < _; first | (show w7.heap.size < w18.heap.size; omega) | (simp; done) | (simp; omega))).trans kx1_7; replace kx1_8 : w19.cell? ⟨w7.heap.size, 8, none⟩ = some (.int .i64 echop1) := (hb19.cell (p := ⟨w7.heap.size, 8, none⟩) (by show w7.heap.size < _; first | (show w7.heap.size < w18.heap.size; omega) | (simp; done) | (simp; omega))).trans kx1_8; have zzx119 : w7.heap.size < w19.heap.size := (by omega); clear hb19)
      | (go_at_call 82; refine (lt_Packet (w19) HB19.size (h1.below HB19 (Nat.le_refl _)) (by omega)).mono ?_; rintro e w20 ⟨A20, c20, D20, d20, rfl, O20, hb20⟩; have hs20 : w19.heap.size ≤ w20.heap.size := hb20.size; have HB20 := HB19.trans (hb20.mono HB19.size); replace O5 := (O5).below hb20 (by first | (show _ ≤ w19.heap.size; omega) | (simp; done) | (simp; omega)); replace O6 := (O6).below hb20 (by first | (show _ ≤ w19.heap.size; omega) | (simp; done) | (simp; omega)); replace O7 := (O7).below hb20 (by first | (show _ ≤ w19.heap.size; omega) | (simp; done) | (simp; omega)); replace O8 := (O8).below hb20 (by first | (show _ ≤ w19.heap.size; omega) | (simp; done) | (simp; omega)); replace O19 := (O19).below hb20 (by first | (show _ ≤ w19.heap.size; omega) | (simp; done) | (simp; omega)); replace kaP_0 : w20.cell? ⟨w.heap.size, 0, none⟩ = some (.int .i64 ap1) := (hb20.cell (p := ⟨w.heap.size, 0, none⟩) (by show w.heap.size < _; first | (show w.heap.size < w19.heap.size; omega) | (simp; done) | (simp; omega))).trans kaP_0; replace kaP_1 : w20.cell? ⟨w.heap.size, 1, none⟩ = some (.int .i64 tickp1) := (hb20.cell (p := ⟨w.heap.size, 1, none⟩) (by show w.heap.size < _; first | (show w.heap.size < w19.heap.size; omega) | (simp; done) | (simp; omega))).trans kaP_1; replace kaP_2 : w20.cell? ⟨w.heap.size, 2, none⟩ = some (.int .i64 firstp1) := (hb20.cell (p := ⟨w.heap.size, 2, none⟩) (by show w.heap.size < _; first | (show w.heap.size < w19.heap.size; omega) | (simp; done) | (simp; omega))).trans kaP_2; replace kaP_3 : w20.cell? ⟨w.heap.size, 3, none⟩ = some (.slice Ap1 np1 cp1) := (hb20.cell (p := ⟨w.heap.size, 3, none⟩) (by show w.heap.size < _; first | (show w.heap.size < w19.heap.size; omega) | (simp; done) | (simp; omega))).trans kaP_3; replace kaP_4 : w20.cell? ⟨w.heap.size, 4, none⟩ = some (.slice Dp1 mp1 dp1) := (hb20.cell (p := ⟨w.heap.size, 4, none⟩) (by show w.heap.size < _; first | (show w.heap.size < w19.heap.size; omega) | (simp; done) | (simp; omega))).trans kaP_4; replace kaP_5 : w20.cell? ⟨w.heap.size, 5, none⟩ = some (.int .i64 stp1) := (hb20.cell (p := ⟨w.heap.size, 5, none⟩) (by show w.heap.size < _; first | (show w.heap.size < w19.heap.size; omega) | (simp; done) | (simp; omega))).trans kaP_5; replace kaP_6 : w20.cell? ⟨w.heap.size, 6, none⟩ = some (.int .i64 sump1) := (hb20.cell (p := ⟨w.heap.size, 6, none⟩) (by show w.heap.size < _; first | (show w.heap.size < w19.heap.size; omega) | (simp; done) | (simp; omega))).trans kaP_6; replace kaP_7 : w20.cell? ⟨w.heap.size, 7, none⟩ = some (.int .i64 timep1) := (hb20.cell (p := ⟨w.heap.size, 7, none⟩) (by show w.heap.size < _; first | (show w.heap.size < w19.heap.size; omega) | (simp; done) | (simp; omega))).trans kaP_7; replace kaP_8 : w20.cell? ⟨w.heap.size, 8, none⟩ = some (.int .i64 echop1) := (hb20.cell (p := ⟨w.heap.size, 8, none⟩) (by show w.heap.size < _; first | (show w.heap.size < w19.heap.size; omega) | (simp; done) | (simp; omega))).trans kaP_8; have zzaP20 : w.heap.size < w20.heap.size := (by omega); replace kx1_0 : w20.cell? ⟨w7.heap.size, 0, none⟩ = some (.int .i64 ap1) := (hb20.cell (p := ⟨w7.heap.size, 0, none⟩) (by show w7.heap.size < _; first | (show w7.heap.size < w19.heap.size; omega) | (simp; done) | (simp; omega))).trans kx1_0; replace kx1_1 : w20.cell? ⟨w7.heap.size, 1, none⟩ = some (.int .i64 tickp1) := (hb20.cell (p := ⟨w7.heap.size, 1, none⟩) (by show w7.heap.size < _; first | (show w7.heap.size < w19.heap.size; omega) | (simp; done) | (simp; omega))).trans kx1_1; replace kx1_2 : w20.cell? ⟨w7.heap.size, 2, none⟩ = some (.int .i64 firstp1) := (hb20.cell (p := ⟨w7.heap.size, 2, none⟩) (by show w7.heap.size < _; first | (show w7.heap.size < w19.heap.size; omega) | (simp; done) | (simp; omega))).trans kx1_2; replace kx1_3 : w20.cell? ⟨w7.heap.size, 3, none⟩ = some (.slice A7 np1 c7) := (hb20.cell (p := ⟨w7.heap.size, 3, none⟩) (by show w7.heap.size < _; first | (show w7.heap.size < w19.heap.size; omega) | (simp; done) | (simp; omega))).trans kx1_3; replace kx1_4 : w20.cell? ⟨w7.heap.size, 4, none⟩ = some (.slice D7 mp1 d7) := (hb20.cell (p := ⟨w7.heap.size, 4, none⟩) (by show w7.heap.size < _; first | (show w7.heap.size < w19.heap.size; omega) | (simp; done) | (simp; omega))).trans kx1_4; replace kx1_5 : w20.cell? ⟨w7.heap.size, 5, none⟩ = some (.int .i64 stp1) := (hb20.cell (p := ⟨w7.heap.size, 5, none⟩) (by show w7.heap.size < _; first | (show w7.heap.size < w19.heap.size; omega) | (simp; done) | (simp; omega))).trans kx1_5; replace kx1_6 : w20.cell? ⟨w7.heap.size, 6, none⟩ = some (.int .i64 sump1) := (hb20.cell (p := ⟨w7.heap.size, 6, none⟩) (by show w7.heap.size < _; first | (show w7.heap.size < w19.heap.size; omega) | (simp; done) | (simp; omega))).trans kx1_6; replace kx1_7 : w20.cell? ⟨w7.heap.size, 7, none⟩ = some (.int .i64 timep1) := (hb20.cell (p := ⟨w7.heap.size, 7, none⟩) (by show w7.heap.size < _; first | (show w7.heap.size < w19.heap.size; omega) | (simp; done) | (simp; omega))).trans kx1_7; replace kx1_8 : w20.cell? ⟨w7.heap.size, 8, none⟩ = some (.int .i64 echop1) := (hb20.cell (p := ⟨w7.heap.size, 8, none⟩) (by show w7.heap.size < _; first | (show w7.heap.size < w19.heap.size; omega) | (simp; done) | (simp; omega))).trans kx1_8; have zzx120 : w7.heap.size < w20.heap.size := (by omega); clear hb20)
      | (go_at_call 109; refine (i_TakePacket _ _ _ _ _ _ _ _ (Nat.le_refl _) (O19).rdw (O20).rdw (by omega)).mono ?_; rintro e w21 ⟨A21, n21, c21, rfl, O21, hn21, hb21⟩; have hs21 : w20.heap.size ≤ w21.heap.size := hb21.size; have HB21 := HB20.trans (hb21.mono HB20.size); replace O5 := (O5).below hb21 (by first | (show _ ≤ w20.heap.size; omega) | (simp; done) | (simp; omega)); replace O6 := (O6).below hb21 (by first | (show _ ≤ w20.heap.size; omega) | (simp; done) | (simp; omega)); replace O7 := (O7).below hb21 (by first | (show _ ≤ w20.heap.size; omega) | (simp; done) | (simp; omega)); replace O8 := (O8).below hb21 (by first | (show _ ≤ w20.heap.size; omega) | (simp; done) | (simp; omega)); replace O19 := (O19).below hb21 (by first | (show _ ≤ w20.heap.size; omega) | (simp; done) | (simp; omega)); replace O20 := (O20).below hb21 (by first | (show _ ≤ w20.heap.size; omega) | (simp; done) | (simp; omega)); replace kaP_0 : w21.cell? ⟨w.heap.size, 0, none⟩ = some (.int .i64 ap1) := (hb21.cell (p := ⟨w.heap.size, 0, none⟩) (by show w.heap.size < _; first | (show w.heap.size < w20.heap.size; omega) | (simp; done) | (simp; omega))).trans kaP_0; replace kaP_1 : w21.cell? ⟨w.heap.size, 1, none⟩ = some (.int .i64 tickp1) := (hb21.cell (p := ⟨w.heap.size, 1, none⟩) (by show w.heap.size < _; first | (show w.heap.size < w20.heap.size; omega) | (simp; done) | (simp; omega))).trans kaP_1; replace kaP_2 : w21.cell? ⟨w.heap.size, 2, none⟩ = some (.int .i64 firstp1) := (hb21.cell (p := ⟨w.heap.size, 2, none⟩) (by show w.heap.size < _; first | (show w.heap.size < w20.heap.size; omega) | (simp; done) | (simp; omega))).trans kaP_2; replace kaP_3 : w21.cell? ⟨w.heap.size, 3, none⟩ = some (.slice Ap1 np1 cp1) := (hb21.cell (p := ⟨w.heap.size, 3, none⟩) (by show w.heap.size < _; first | (show w.heap.size < w20.heap.size; omega) | (simp; done) | (simp; omega))).trans kaP_3; replace kaP_4 : w21.cell? ⟨w.heap.size, 4, none⟩ = some (.slice Dp1 mp1 dp1) := (hb21.cell (p := ⟨w.heap.size, 4, none⟩) (by show w.heap.size < _; first | (show w.heap.size < w20.heap.size; omega) | (simp; done) | (simp; omega))).trans kaP_4; replace kaP_5 : w21.cell? ⟨w.heap.size, 5, none⟩ = some (.int .i64 stp1) := (hb21.cell (p := ⟨w.heap.size, 5, none⟩) (by show w.heap.size < _; first | (show w.heap.size < w20.heap.size; omega) | (simp; done) | (simp; omega))).trans kaP_5; replace kaP_6 : w21.cell? ⟨w.heap.size, 6, none⟩ = some (.int .i64 sump1) := (hb21.cell (p := ⟨w.heap.size, 6, none⟩) (by show w.heap.size < _; first | (show w.heap.size < w20.heap.size; omega) | (simp; done) | (simp; omega))).trans kaP_6; replace kaP_7 : w21.cell? ⟨w.heap.size, 7, none⟩ = some (.int .i64 timep1) := (hb21.cell (p := ⟨w.heap.size, 7, none⟩) (by show w.heap.size < _; first | (show w.heap.size < w20.heap.size; omega) | (simp; done) | (simp; omega))).trans kaP_7; replace kaP_8 : w21.cell? ⟨w.heap.size, 8, none⟩ = some (.int .i64 echop1) := (hb21.cell (p := ⟨w.heap.size, 8, none⟩) (by show w.heap.size < _; first | (show w.heap.size < w20.heap.size; omega) | (simp; done) | (simp; omega))).trans kaP_8; have zzaP21 : w.heap.size < w21.heap.size := (by omega); replace kx1_0 : w21.cell? ⟨w7.heap.size, 0, none⟩ = some (.int .i64 ap1) := (hb21.cell (p := ⟨w7.heap.size, 0, none⟩) (by show w7.heap.size < _; first | (show w7.heap.size < w20.heap.size; omega) | (simp; done) | (simp; omega))).trans kx1_0; replace kx1_1 : w21.cell? ⟨w7.heap.size, 1, none⟩ = some (.int .i64 tickp1) := (hb21.cell (p := ⟨w7.heap.size, 1, none⟩) (by show w7.heap.size < _; first | (show w7.heap.size < w20.heap.size; omega) | (simp; done) | (simp; omega))).trans kx1_1; replace kx1_2 : w21.cell? ⟨w7.heap.size, 2, none⟩ = some (.int .i64 firstp1) := (hb21.cell (p := ⟨w7.heap.size, 2, none⟩) (by show w7.heap.size < _; first | (show w7.heap.size < w20.heap.size; omega) | (simp; done) | (simp; omega))).trans kx1_2; replace kx1_3 : w21.cell? ⟨w7.heap.size, 3, none⟩ = some (.slice A7 np1 c7) := (hb21.cell (p := ⟨w7.heap.size, 3, none⟩) (by show w7.heap.size < _; first | (show w7.heap.size < w20.heap.size; omega) | (simp; done) | (simp; omega))).trans kx1_3; replace kx1_4 : w21.cell? ⟨w7.heap.size, 4, none⟩ = some (.slice D7 mp1 d7) := (hb21.cell (p := ⟨w7.heap.size, 4, none⟩) (by show w7.heap.size < _; first | (show w7.heap.size < w20.heap.size; omega) | (simp; done) | (simp; omega))).trans kx1_4; replace kx1_5 : w21.cell? ⟨w7.heap.size, 5, none⟩ = some (.int .i64 stp1) := (hb21.cell (p := ⟨w7.heap.size, 5, none⟩) (by show w7.heap.size < _; first | (show w7.heap.size < w20.heap.size; omega) | (simp; done) | (simp; omega))).trans kx1_5; replace kx1_6 : w21.cell? ⟨w7.heap.size, 6, none⟩ = some (.int .i64 sump1) := (hb21.cell (p := ⟨w7.heap.size, 6, none⟩) (by show w7.heap.size < _; first | (show w7.heap.size < w20.heap.size; omega) | (simp; done) | (simp; omega))).trans kx1_6; replace kx1_7 : w21.cell? ⟨w7.heap.size, 7, none⟩ = some (.int .i64 timep1) := (hb21.cell (p := ⟨w7.heap.size, 7, none⟩) (by show w7.heap.size < _; first | (show w7.heap.size < w20.heap.size; omega) | (simp; done) | (simp; omega))).trans kx1_7; replace kx1_8 : w21.cell? ⟨w7.heap.size, 8, none⟩ = some (.int .i64 echop1) := (hb21.cell (p := ⟨w7.heap.size, 8, none⟩) (by show w7.heap.size < _; first | (show w7.heap.size < w20.heap.size; omega) | (simp; done) | (simp; omega))).trans kx1_8; have zzx121 : w7.heap.size < w21.heap.size := (by omega); clear hb21))
  clear O19
  clear O20
  go_wp2_with fail
  refine (le_TrackS _ (Nat.le_refl _) (O21).rdw (O5).rdw).mono ?_
  rintro e w22 ⟨rfl, hb22⟩
  have hs22 : w21.heap.size ≤ w22.heap.size := by have := hb22.size; (try simp at this); omega
  have HB22 := HB21.trans (hb22.mono HB21.size)
  replace O5 := (O5).below hb22 (by first | omega | (simp; omega) | simp)
  replace O6 := (O6).below hb22 (by first | omega | (simp; omega) | simp)
  replace O7 := (O7).below hb22 (by first | omega | (simp; omega) | simp)
  replace O8 := (O8).below hb22 (by first | omega | (simp; omega) | simp)
  replace O21 := (O21).below hb22 (by first | omega | (simp; omega) | simp)
  replace kaP_0 : w22.cell? ⟨w.heap.size, 0, none⟩ = some (.int .i64 ap1) := (hb22.cell (p := ⟨w.heap.size, 0, none⟩) (by show w.heap.size < _; first | omega | (simp; omega) | simp)).trans kaP_0
  replace kaP_1 : w22.cell? ⟨w.heap.size, 1, none⟩ = some (.int .i64 tickp1) := (hb22.cell (p := ⟨w.heap.size, 1, none⟩) (by show w.heap.size < _; first | omega | (simp; omega) | simp)).trans kaP_1
  replace kaP_2 : w22.cell? ⟨w.heap.size, 2, none⟩ = some (.int .i64 firstp1) := (hb22.cell (p := ⟨w.heap.size, 2, none⟩) (by show w.heap.size < _; first | omega | (simp; omega) | simp)).trans kaP_2
  replace kaP_3 : w22.cell? ⟨w.heap.size, 3, none⟩ = some (.slice Ap1 np1 cp1) := (hb22.cell (p := ⟨w.heap.size, 3, none⟩) (by show w.heap.size < _; first | omega | (simp; omega) | simp)).trans kaP_3
  replace kaP_4 : w22.cell? ⟨w.heap.size, 4, none⟩ = some (.slice Dp1 mp1 dp1) := (hb22.cell (p := ⟨w.heap.size, 4, none⟩) (by show w.heap.size < _; first | omega | (simp; omega) | simp)).trans kaP_4
  replace kaP_5 : w22.cell? ⟨w.heap.size, 5, none⟩ = some (.int .i64 stp1) := (hb22.cell (p := ⟨w.heap.size, 5, none⟩) (by show w.heap.size < _; first | omega | (simp; omega) | simp)).trans kaP_5
  replace kaP_6 : w22.cell? ⟨w.heap.size, 6, none⟩ = some (.int .i64 sump1) := (hb22.cell (p := ⟨w.heap.size, 6, none⟩) (by show w.heap.size < _; first | omega | (simp; omega) | simp)).trans kaP_6
  replace kaP_7 : w22.cell? ⟨w.heap.size, 7, none⟩ = some (.int .i64 timep1) := (hb22.cell (p := ⟨w.heap.size, 7, none⟩) (by show w.heap.size < _; first | omega | (simp; omega) | simp)).trans kaP_7
  replace kaP_8 : w22.cell? ⟨w.heap.size, 8, none⟩ = some (.int .i64 echop1) := (hb22.cell (p := ⟨w.heap.size, 8, none⟩) (by show w.heap.size < _; first | omega | (simp; omega) | simp)).trans kaP_8
  have zzaP22 : w.heap.size < w22.heap.size := by omega
  clear zzaP21
  replace kx1_0 : w22.cell? ⟨w7.heap.size, 0, none⟩ = some (.int .i64 ap1) := (hb22.cell (p := ⟨w7.heap.size, 0, none⟩) (by show w7.heap.size < _; first | omega | (simp; omega) | simp)).trans kx1_0
  replace kx1_1 : w22.cell? ⟨w7.heap.size, 1, none⟩ = some (.int .i64 tickp1) := (hb22.cell (p := ⟨w7.heap.size, 1, none⟩) (by show w7.heap.size < _; first | omega | (simp; omega) | simp)).trans kx1_1
  replace kx1_2 : w22.cell? ⟨w7.heap.size, 2, none⟩ = some (.int .i64 firstp1) := (hb22.cell (p := ⟨w7.heap.size, 2, none⟩) (by show w7.heap.size < _; first | omega | (simp; omega) | simp)).trans kx1_2
  replace kx1_3 : w22.cell? ⟨w7.heap.size, 3, none⟩ = some (.slice A7 np1 c7) := (hb22.cell (p := ⟨w7.heap.size, 3, none⟩) (by show w7.heap.size < _; first | omega | (simp; omega) | simp)).trans kx1_3
  replace kx1_4 : w22.cell? ⟨w7.heap.size, 4, none⟩ = some (.slice D7 mp1 d7) := (hb22.cell (p := ⟨w7.heap.size, 4, none⟩) (by show w7.heap.size < _; first | omega | (simp; omega) | simp)).trans kx1_4
  replace kx1_5 : w22.cell? ⟨w7.heap.size, 5, none⟩ = some (.int .i64 stp1) := (hb22.cell (p := ⟨w7.heap.size, 5, none⟩) (by show w7.heap.size < _; first | omega | (simp; omega) | simp)).trans kx1_5
  replace kx1_6 : w22.cell? ⟨w7.heap.size, 6, none⟩ = some (.int .i64 sump1) := (hb22.cell (p := ⟨w7.heap.size, 6, none⟩) (by show w7.heap.size < _; first | omega | (simp; omega) | simp)).trans kx1_6
  replace kx1_7 : w22.cell? ⟨w7.heap.size, 7, none⟩ = some (.int .i64 timep1) := (hb22.cell (p := ⟨w7.heap.size, 7, none⟩) (by show w7.heap.size < _; first | omega | (simp; omega) | simp)).trans kx1_7
  replace kx1_8 : w22.cell? ⟨w7.heap.size, 8, none⟩ = some (.int .i64 echop1) := (hb22.cell (p := ⟨w7.heap.size, 8, none⟩) (by show w7.heap.size < _; first | omega | (simp; omega) | simp)).trans kx1_8
  have zzx122 : w7.heap.size < w22.heap.size := by omega
  clear zzx121
  go_wp2_with fail
  refine (lh_TrackS (1) _ (Nat.le_refl _) (O8).rdw (by omega) (by omega)).mono ?_
  rintro e w23 ⟨rfl, hb23⟩
  have hs23 : w22.heap.size ≤ w23.heap.size := by have := hb23.size; (try simp at this); omega
  have HB23 := HB22.trans (hb23.mono HB22.size)
  replace O5 := (O5).below hb23 (by first | omega | (simp; omega) | simp)
  replace O6 := (O6).below hb23 (by first | omega | (simp; omega) | simp)
  replace O7 := (O7).below hb23 (by first | omega | (simp; omega) | simp)
  replace O8 := (O8).below hb23 (by first | omega | (simp; omega) | simp)
  replace O21 := (O21).below hb23 (by first | omega | (simp; omega) | simp)
  replace kaP_0 : w23.cell? ⟨w.heap.size, 0, none⟩ = some (.int .i64 ap1) := (hb23.cell (p := ⟨w.heap.size, 0, none⟩) (by show w.heap.size < _; first | omega | (simp; omega) | simp)).trans kaP_0
  replace kaP_1 : w23.cell? ⟨w.heap.size, 1, none⟩ = some (.int .i64 tickp1) := (hb23.cell (p := ⟨w.heap.size, 1, none⟩) (by show w.heap.size < _; first | omega | (simp; omega) | simp)).trans kaP_1
  replace kaP_2 : w23.cell? ⟨w.heap.size, 2, none⟩ = some (.int .i64 firstp1) := (hb23.cell (p := ⟨w.heap.size, 2, none⟩) (by show w.heap.size < _; first | omega | (simp; omega) | simp)).trans kaP_2
  replace kaP_3 : w23.cell? ⟨w.heap.size, 3, none⟩ = some (.slice Ap1 np1 cp1) := (hb23.cell (p := ⟨w.heap.size, 3, none⟩) (by show w.heap.size < _; first | omega | (simp; omega) | simp)).trans kaP_3
  replace kaP_4 : w23.cell? ⟨w.heap.size, 4, none⟩ = some (.slice Dp1 mp1 dp1) := (hb23.cell (p := ⟨w.heap.size, 4, none⟩) (by show w.heap.size < _; first | omega | (simp; omega) | simp)).trans kaP_4
  replace kaP_5 : w23.cell? ⟨w.heap.size, 5, none⟩ = some (.int .i64 stp1) := (hb23.cell (p := ⟨w.heap.size, 5, none⟩) (by show w.heap.size < _; first | omega | (simp; omega) | simp)).trans kaP_5
  replace kaP_6 : w23.cell? ⟨w.heap.size, 6, none⟩ = some (.int .i64 sump1) := (hb23.cell (p := ⟨w.heap.size, 6, none⟩) (by show w.heap.size < _; first | omega | (simp; omega) | simp)).trans kaP_6
  replace kaP_7 : w23.cell? ⟨w.heap.size, 7, none⟩ = some (.int .i64 timep1) := (hb23.cell (p := ⟨w.heap.size, 7, none⟩) (by show w.heap.size < _; first | omega | (simp; omega) | simp)).trans kaP_7
  replace kaP_8 : w23.cell? ⟨w.heap.size, 8, none⟩ = some (.int .i64 echop1) := (hb23.cell (p := ⟨w.heap.size, 8, none⟩) (by show w.heap.size < _; first | omega | (simp; omega) | simp)).trans kaP_8
  have zzaP23 : w.heap.size < w23.heap.size := by omega
  clear zzaP22
  replace kx1_0 : w23.cell? ⟨w7.heap.size, 0, none⟩ = some (.int .i64 ap1) := (hb23.cell (p := ⟨w7.heap.size, 0, none⟩) (by show w7.heap.size < _; first | omega | (simp; omega) | simp)).trans kx1_0
  replace kx1_1 : w23.cell? ⟨w7.heap.size, 1, none⟩ = some (.int .i64 tickp1) := (hb23.cell (p := ⟨w7.heap.size, 1, none⟩) (by show w7.heap.size < _; first | omega | (simp; omega) | simp)).trans kx1_1
  replace kx1_2 : w23.cell? ⟨w7.heap.size, 2, none⟩ = some (.int .i64 firstp1) := (hb23.cell (p := ⟨w7.heap.size, 2, none⟩) (by show w7.heap.size < _; first | omega | (simp; omega) | simp)).trans kx1_2
  replace kx1_3 : w23.cell? ⟨w7.heap.size, 3, none⟩ = some (.slice A7 np1 c7) := (hb23.cell (p := ⟨w7.heap.size, 3, none⟩) (by show w7.heap.size < _; first | omega | (simp; omega) | simp)).trans kx1_3
  replace kx1_4 : w23.cell? ⟨w7.heap.size, 4, none⟩ = some (.slice D7 mp1 d7) := (hb23.cell (p := ⟨w7.heap.size, 4, none⟩) (by show w7.heap.size < _; first | omega | (simp; omega) | simp)).trans kx1_4
  replace kx1_5 : w23.cell? ⟨w7.heap.size, 5, none⟩ = some (.int .i64 stp1) := (hb23.cell (p := ⟨w7.heap.size, 5, none⟩) (by show w7.heap.size < _; first | omega | (simp; omega) | simp)).trans kx1_5
  replace kx1_6 : w23.cell? ⟨w7.heap.size, 6, none⟩ = some (.int .i64 sump1) := (hb23.cell (p := ⟨w7.heap.size, 6, none⟩) (by show w7.heap.size < _; first | omega | (simp; omega) | simp)).trans kx1_6
  replace kx1_7 : w23.cell? ⟨w7.heap.size, 7, none⟩ = some (.int .i64 timep1) := (hb23.cell (p := ⟨w7.heap.size, 7, none⟩) (by show w7.heap.size < _; first | omega | (simp; omega) | simp)).trans kx1_7
  replace kx1_8 : w23.cell? ⟨w7.heap.size, 8, none⟩ = some (.int .i64 echop1) := (hb23.cell (p := ⟨w7.heap.size, 8, none⟩) (by show w7.heap.size < _; first | omega | (simp; omega) | simp)).trans kx1_8
  have zzx123 : w7.heap.size < w23.heap.size := by omega
  clear zzx122
  go_wp2_with fail
  go_ret
  exact ⟨rfl, HB23⟩

end Go.Proofs.Ytoolhhgfeklhcaa
