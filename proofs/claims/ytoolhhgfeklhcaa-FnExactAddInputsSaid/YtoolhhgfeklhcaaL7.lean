/- What is proved: the statement on AddInputs: the program's function answers as the reference's, whatever the arguments.
   Conditions: none. -/
import Derived.Test.YtoolhhgfeklhcaaHelp
import Derived.Test.YtoolhhgfeklhcaaAddS
import Derived.Test.YtoolhhgfeklhcaaClosed
import Derived.Deep.RegionHeld3
namespace Go.Proofs.Ytoolhhgfeklhcaa
open Go.RowKit Go.ChangeShapes Go.WideShapes

set_option maxHeartbeats 3200000 in
theorem l_FnExactAddInputs {np0 cp0 : Nat} {Ap0 : Option Addr} {xsp0 : List Int} (z1 : Int) {np2 cp2 : Nat} {Ap2 : Option Addr} {xsp2 : List Int} (w : World) (h0 : IntsRd w w.heap.size Ap0 np0 cp0 xsp0) (h2 : IntsRd w w.heap.size Ap2 np2 cp2 xsp2) :
    Calls Try.prog 15 #[.agg #[.slice Ap0 np0 cp0], .int .i64 z1, .slice Ap2 np2 cp2] w fun e w' => e = .returned (.bool true) ∧ Below w.heap.size w w' := by
  have hle_aT := h0.le
  have hle_aInputs := h2.le
  rcases Nat.lt_or_ge 1048576 (np2) with gl_aInputs | gl_aInputs
  · go_enter Try.func15, Try.ntmps15
    go_wp2_with fail
    go_ret
    exact ⟨rfl, (Below.refl _ _).alloc (by first | exact Nat.le_refl _ | simp | (simp; omega)) _⟩
  have HB0 := Below.refl w.heap.size w
  go_enter Try.func15, Try.ntmps15
  go_wp2_with fail
  rcases Nat.lt_or_ge 1048576 (np0) with g1 | g1
  · have hg1 : Hid (szI (np0) 1048576 = -1) := if_pos (by omega)
    refine (lz_Track _ _ ((HB0.alloc (by first | omega | (simp; omega) | simp) _).size) (h0.below (HB0.alloc (by first | omega | (simp; omega) | simp) _) (Nat.le_refl _)) (by omega) (by omega)).mono ?_
    rintro e w1 ⟨rfl, hb1⟩
    rw [hg1.out]
    have HB1 := (HB0.alloc (by first | omega | (simp; omega) | simp) _).trans (hb1.mono (HB0.alloc (by first | omega | (simp; omega) | simp) _).size)
    go_wp2_with fail
    go_ret
    exact ⟨rfl, HB1⟩
  have hg1 : Hid (szI (np0) 1048576 = 1048576 - ((np0 : Nat) : Int)) := by show szI _ _ = _; unfold szI; split <;> omega
  refine (lz_Track _ _ ((HB0.alloc (by first | omega | (simp; omega) | simp) _).size) (h0.below (HB0.alloc (by first | omega | (simp; omega) | simp) _) (Nat.le_refl _)) (by omega) (by omega)).mono ?_
  rintro e w1 ⟨rfl, hb1⟩
  rw [hg1.out]
  have hs1 : w.heap.size + 1 ≤ w1.heap.size := by have := hb1.size; (try simp at this); omega
  have HB1 := (HB0.alloc (by first | omega | (simp; omega) | simp) _).trans (hb1.mono (HB0.alloc (by first | omega | (simp; omega) | simp) _).size)
  have kaT_0 : w1.cell? ⟨w.heap.size, 0, none⟩ = some (.slice Ap0 np0 cp0) := (hb1.cell (p := ⟨w.heap.size, 0, none⟩) (by show w.heap.size < _; first | omega | (simp; omega) | simp)).trans (by simp)
  have zzaT1 : w.heap.size < w1.heap.size := by omega
  go_wp2_with fail
  refine (lt_Track _ (HB1.size) (h0.below HB1 (Nat.le_refl _)) (by omega)).mono ?_
  rintro e w2 ⟨A2, c2, rfl, O2, hb2⟩
  have hs2 : w1.heap.size ≤ w2.heap.size := by have := hb2.size; (try simp at this); omega
  have HB2 := HB1.trans (hb2.mono HB1.size)
  replace kaT_0 : w2.cell? ⟨w.heap.size, 0, none⟩ = some (.slice Ap0 np0 cp0) := (hb2.cell (p := ⟨w.heap.size, 0, none⟩) (by show w.heap.size < _; first | omega | (simp; omega) | simp)).trans kaT_0
  have zzaT2 : w.heap.size < w2.heap.size := by omega
  clear zzaT1
  go_wp2_with fail
  refine (lt_IntS _ (HB2.size) (h2.below HB2 (Nat.le_refl _)) (by omega)).mono ?_
  rintro e w3 ⟨A3, c3, rfl, O3, hb3⟩
  have hs3 : w2.heap.size ≤ w3.heap.size := by have := hb3.size; (try simp at this); omega
  have HB3 := HB2.trans (hb3.mono HB2.size)
  replace O2 := (O2).below hb3 (by first | omega | (simp; omega) | simp)
  replace kaT_0 : w3.cell? ⟨w.heap.size, 0, none⟩ = some (.slice Ap0 np0 cp0) := (hb3.cell (p := ⟨w.heap.size, 0, none⟩) (by show w.heap.size < _; first | omega | (simp; omega) | simp)).trans kaT_0
  have zzaT3 : w.heap.size < w3.heap.size := by omega
  clear zzaT2
  go_wp2_with fail
  refine (s_AddInputs z1 _ (Nat.le_refl _) (O2).rdw (O3).rdw (by omega) (by omega)).mono ?_
  rintro e w4 ⟨A4, n4, c4, rfl, O4, hn4, hb4⟩
  have hs4 : w3.heap.size ≤ w4.heap.size := by have := hb4.size; (try simp at this); omega
  have HB4 := HB3.trans (hb4.mono HB3.size)
  replace kaT_0 : w4.cell? ⟨w.heap.size, 0, none⟩ = some (.slice Ap0 np0 cp0) := (hb4.cell (p := ⟨w.heap.size, 0, none⟩) (by show w.heap.size < _; first | omega | (simp; omega) | simp)).trans kaT_0
  have zzaT4 : w.heap.size < w4.heap.size := by omega
  clear zzaT3
  go_wp2_with fail
  refine (lt_Track _ ((HB4.alloc (by first | omega | (simp; omega) | simp) _).size) (h0.below (HB4.alloc (by first | omega | (simp; omega) | simp) _) (Nat.le_refl _)) (by omega)).mono ?_
  rintro e w5 ⟨A5, c5, rfl, O5, hb5⟩
  simp only [World.size_alloc] at O5
  have hs5 : w4.heap.size + 1 ≤ w5.heap.size := by have := hb5.size; (try simp at this); omega
  have HB5 := (HB4.alloc (by first | omega | (simp; omega) | simp) _).trans (hb5.mono (HB4.alloc (by first | omega | (simp; omega) | simp) _).size)
  replace O4 := (O4.alloc _).below hb5 (by first | omega | (simp; omega) | simp)
  replace kaT_0 : w5.cell? ⟨w.heap.size, 0, none⟩ = some (.slice Ap0 np0 cp0) := (hb5.cell (p := ⟨w.heap.size, 0, none⟩) (by show w.heap.size < _; first | omega | (simp; omega) | simp)).trans ((World.cell?_alloc_lt _ _ _ (by show w.heap.size < _; first | omega | (simp; omega) | simp)).trans kaT_0)
  have zzaT5 : w.heap.size < w5.heap.size := by omega
  clear zzaT4
  have kw0_0 : w5.cell? ⟨w4.heap.size, 0, none⟩ = some (.slice A4 n4 c4) := (hb5.cell (p := ⟨w4.heap.size, 0, none⟩) (by show w4.heap.size < _; first | omega | (simp; omega) | simp)).trans (by simp)
  have zzw05 : w4.heap.size < w5.heap.size := by omega
  go_wp2_with fail
  refine (lt_IntS _ ((HB5.alloc (by first | omega | (simp; omega) | simp) _).size) (h2.below (HB5.alloc (by first | omega | (simp; omega) | simp) _) (Nat.le_refl _)) (by omega)).mono ?_
  rintro e w6 ⟨A6, c6, rfl, O6, hb6⟩
  simp only [World.size_alloc] at O6
  have hs6 : w5.heap.size + 1 ≤ w6.heap.size := by have := hb6.size; (try simp at this); omega
  have HB6 := (HB5.alloc (by first | omega | (simp; omega) | simp) _).trans (hb6.mono (HB5.alloc (by first | omega | (simp; omega) | simp) _).size)
  replace O4 := (O4.alloc _).below hb6 (by first | omega | (simp; omega) | simp)
  replace O5 := (O5.alloc _).below hb6 (by first | omega | (simp; omega) | simp)
  replace kaT_0 : w6.cell? ⟨w.heap.size, 0, none⟩ = some (.slice Ap0 np0 cp0) := (hb6.cell (p := ⟨w.heap.size, 0, none⟩) (by show w.heap.size < _; first | omega | (simp; omega) | simp)).trans ((World.cell?_alloc_lt _ _ _ (by show w.heap.size < _; first | omega | (simp; omega) | simp)).trans kaT_0)
  have zzaT6 : w.heap.size < w6.heap.size := by omega
  clear zzaT5
  replace kw0_0 : w6.cell? ⟨w4.heap.size, 0, none⟩ = some (.slice A4 n4 c4) := (hb6.cell (p := ⟨w4.heap.size, 0, none⟩) (by show w4.heap.size < _; first | omega | (simp; omega) | simp)).trans ((World.cell?_alloc_lt _ _ _ (by show w4.heap.size < _; first | omega | (simp; omega) | simp)).trans kw0_0)
  have zzw06 : w4.heap.size < w6.heap.size := by omega
  clear zzw05
  have kx0_0 : w6.cell? ⟨w5.heap.size, 0, none⟩ = some (.slice A5 np0 c5) := (hb6.cell (p := ⟨w5.heap.size, 0, none⟩) (by show w5.heap.size < _; first | omega | (simp; omega) | simp)).trans (by simp)
  have zzx06 : w5.heap.size < w6.heap.size := by omega
  go_wp2_with fail
  refine (i_AddInputs z1 _ (Nat.le_refl _) (O5).rdw (O6).rdw (by omega) (by omega)).mono ?_
  rintro e w7 ⟨A7, n7, c7, rfl, O7, hn7, hb7⟩
  have hs7 : w6.heap.size ≤ w7.heap.size := by have := hb7.size; (try simp at this); omega
  have HB7 := HB6.trans (hb7.mono HB6.size)
  replace O4 := (O4).below hb7 (by first | omega | (simp; omega) | simp)
  replace O5 := (O5).below hb7 (by first | omega | (simp; omega) | simp)
  replace O6 := (O6).below hb7 (by first | omega | (simp; omega) | simp)
  replace kaT_0 : w7.cell? ⟨w.heap.size, 0, none⟩ = some (.slice Ap0 np0 cp0) := (hb7.cell (p := ⟨w.heap.size, 0, none⟩) (by show w.heap.size < _; first | omega | (simp; omega) | simp)).trans kaT_0
  have zzaT7 : w.heap.size < w7.heap.size := by omega
  clear zzaT6
  replace kw0_0 : w7.cell? ⟨w4.heap.size, 0, none⟩ = some (.slice A4 n4 c4) := (hb7.cell (p := ⟨w4.heap.size, 0, none⟩) (by show w4.heap.size < _; first | omega | (simp; omega) | simp)).trans kw0_0
  have zzw07 : w4.heap.size < w7.heap.size := by omega
  clear zzw06
  replace kx0_0 : w7.cell? ⟨w5.heap.size, 0, none⟩ = some (.slice A5 np0 c5) := (hb7.cell (p := ⟨w5.heap.size, 0, none⟩) (by show w5.heap.size < _; first | omega | (simp; omega) | simp)).trans kx0_0
  have zzx07 : w5.heap.size < w7.heap.size := by omega
  clear zzx06
  go_wp2_with fail
  refine (le_Track _ (Nat.le_refl _) (O7.alloc _).rdw (O4.alloc _).rdw).mono ?_
  rintro e w8 ⟨rfl, hb8⟩
  have hs8 : w7.heap.size + 1 ≤ w8.heap.size := by have := hb8.size; (try simp at this); omega
  have HB8 := (HB7.alloc (by first | omega | (simp; omega) | simp) _).trans (hb8.mono (HB7.alloc (by first | omega | (simp; omega) | simp) _).size)
  replace O4 := (O4.alloc _).below hb8 (by first | omega | (simp; omega) | simp)
  replace O5 := (O5.alloc _).below hb8 (by first | omega | (simp; omega) | simp)
  replace O6 := (O6.alloc _).below hb8 (by first | omega | (simp; omega) | simp)
  replace O7 := (O7.alloc _).below hb8 (by first | omega | (simp; omega) | simp)
  replace kaT_0 : w8.cell? ⟨w.heap.size, 0, none⟩ = some (.slice Ap0 np0 cp0) := (hb8.cell (p := ⟨w.heap.size, 0, none⟩) (by show w.heap.size < _; first | omega | (simp; omega) | simp)).trans ((World.cell?_alloc_lt _ _ _ (by show w.heap.size < _; first | omega | (simp; omega) | simp)).trans kaT_0)
  have zzaT8 : w.heap.size < w8.heap.size := by omega
  clear zzaT7
  replace kw0_0 : w8.cell? ⟨w4.heap.size, 0, none⟩ = some (.slice A4 n4 c4) := (hb8.cell (p := ⟨w4.heap.size, 0, none⟩) (by show w4.heap.size < _; first | omega | (simp; omega) | simp)).trans ((World.cell?_alloc_lt _ _ _ (by show w4.heap.size < _; first | omega | (simp; omega) | simp)).trans kw0_0)
  have zzw08 : w4.heap.size < w8.heap.size := by omega
  clear zzw07
  replace kx0_0 : w8.cell? ⟨w5.heap.size, 0, none⟩ = some (.slice A5 np0 c5) := (hb8.cell (p := ⟨w5.heap.size, 0, none⟩) (by show w5.heap.size < _; first | omega | (simp; omega) | simp)).trans ((World.cell?_alloc_lt _ _ _ (by show w5.heap.size < _; first | omega | (simp; omega) | simp)).trans kx0_0)
  have zzx08 : w5.heap.size < w8.heap.size := by omega
  clear zzx07
  have kg0_0 : w8.cell? ⟨w7.heap.size, 0, none⟩ = some (.slice A7 n7 c7) := (hb8.cell (p := ⟨w7.heap.size, 0, none⟩) (by show w7.heap.size < _; first | omega | (simp; omega) | simp)).trans (by simp)
  have zzg08 : w7.heap.size < w8.heap.size := by omega
  go_wp2_with fail
  have hxd := h0.below HB8.drew (Nat.le_refl _)
  go_region_held3 (fun w' => w'.cell? ⟨w5.heap.size, 0, none⟩ = some (.slice A5 np0 c5) ∧ w'.cell? ⟨w.heap.size, 0, none⟩ = some (.slice Ap0 np0 cp0))
    (first
      | go_keep
      | exact ⟨kx0_0, kaT_0⟩
      | exact ⟨ekx0_0, ekaT_0⟩)
    (first
      | (go_at_call 60; refine (lt_Track w8.drew HB8.size hxd (by omega)).mono ?_; rintro e w9 ⟨A9, c9, rfl, Oa, hba⟩; have hsa : w8.heap.size ≤ w9.heap.size := hba.size; have HBa := HB8.drew.trans (hba.mono HB8.size); have Ox := O5.drew.below hba (by show _ ≤ w8.heap.size; omega); have ekx0_0 : w9.cell? ⟨w5.heap.size, 0, none⟩ = some (.slice A5 np0 c5) := (hba.cell (p := ⟨w5.heap.size, 0, none⟩) (by show w5.heap.size < w8.heap.size; omega)).trans kx0_0; have ekaT_0 : w9.cell? ⟨w.heap.size, 0, none⟩ = some (.slice Ap0 np0 cp0) := (hba.cell (p := ⟨w.heap.size, 0, none⟩) (by show w.heap.size < w8.heap.size; omega)).trans kaT_0)
      | (go_at_call 62; refine (le_Track _ (Nat.le_refl _) Ox.rdw Oa.rdw).mono ?_; rintro e w10 ⟨rfl, hb10⟩; have hs10 : w8.heap.size ≤ w10.heap.size := Nat.le_trans hsa hb10.size; have HB10 := HBa.trans (hb10.mono HBa.size); have ekx0_0 : w10.cell? ⟨w5.heap.size, 0, none⟩ = some (.slice A5 np0 c5) := (hb10.cell (p := ⟨w5.heap.size, 0, none⟩) (by show w5.heap.size < _; omega)).trans ekx0_0; have ekaT_0 : w10.cell? ⟨w.heap.size, 0, none⟩ = some (.slice Ap0 np0 cp0) := (hb10.cell (p := ⟨w.heap.size, 0, none⟩) (by show w.heap.size < _; omega)).trans ekaT_0))
  replace O4 := (O4.drew.below hba (by show _ ≤ w8.heap.size; omega)).below hb10 (by omega)
  replace O5 := (O5.drew.below hba (by show _ ≤ w8.heap.size; omega)).below hb10 (by omega)
  replace O6 := (O6.drew.below hba (by show _ ≤ w8.heap.size; omega)).below hb10 (by omega)
  replace O7 := (O7.drew.below hba (by show _ ≤ w8.heap.size; omega)).below hb10 (by omega)
  replace kaT_0 : w10.cell? ⟨w.heap.size, 0, none⟩ = some (.slice Ap0 np0 cp0) := (hb10.cell (p := ⟨w.heap.size, 0, none⟩) (by show w.heap.size < _; omega)).trans ((hba.cell (p := ⟨w.heap.size, 0, none⟩) (by show w.heap.size < w8.heap.size; omega)).trans kaT_0)
  have zzaT10 : w.heap.size < w10.heap.size := by omega
  clear zzaT8
  replace kw0_0 : w10.cell? ⟨w4.heap.size, 0, none⟩ = some (.slice A4 n4 c4) := (hb10.cell (p := ⟨w4.heap.size, 0, none⟩) (by show w4.heap.size < _; omega)).trans ((hba.cell (p := ⟨w4.heap.size, 0, none⟩) (by show w4.heap.size < w8.heap.size; omega)).trans kw0_0)
  have zzw010 : w4.heap.size < w10.heap.size := by omega
  clear zzw08
  replace kx0_0 : w10.cell? ⟨w5.heap.size, 0, none⟩ = some (.slice A5 np0 c5) := (hb10.cell (p := ⟨w5.heap.size, 0, none⟩) (by show w5.heap.size < _; omega)).trans ((hba.cell (p := ⟨w5.heap.size, 0, none⟩) (by show w5.heap.size < w8.heap.size; omega)).trans kx0_0)
  have zzx010 : w5.heap.size < w10.heap.size := by omega
  clear zzx08
  replace kg0_0 : w10.cell? ⟨w7.heap.size, 0, none⟩ = some (.slice A7 n7 c7) := (hb10.cell (p := ⟨w7.heap.size, 0, none⟩) (by show w7.heap.size < _; omega)).trans ((hba.cell (p := ⟨w7.heap.size, 0, none⟩) (by show w7.heap.size < w8.heap.size; omega)).trans kg0_0)
  have zzg010 : w7.heap.size < w10.heap.size := by omega
  clear zzg08
  clear ekx0_0
  clear ekaT_0
  clear hba Oa Ox hsa HBa hxd
  go_wp2_with fail
  refine (lt_IntS _ (HB10.size) (h2.below HB10 (Nat.le_refl _)) (by omega)).mono ?_
  rintro e w11 ⟨A11, c11, rfl, O11, hb11⟩
  have hs11 : w10.heap.size ≤ w11.heap.size := by have := hb11.size; (try simp at this); omega
  have HB11 := HB10.trans (hb11.mono HB10.size)
  replace O4 := (O4).below hb11 (by first | omega | (simp; omega) | simp)
  replace O5 := (O5).below hb11 (by first | omega | (simp; omega) | simp)
  replace O6 := (O6).below hb11 (by first | omega | (simp; omega) | simp)
  replace O7 := (O7).below hb11 (by first | omega | (simp; omega) | simp)
  replace kaT_0 : w11.cell? ⟨w.heap.size, 0, none⟩ = some (.slice Ap0 np0 cp0) := (hb11.cell (p := ⟨w.heap.size, 0, none⟩) (by show w.heap.size < _; first | omega | (simp; omega) | simp)).trans kaT_0
  have zzaT11 : w.heap.size < w11.heap.size := by omega
  clear zzaT10
  replace kw0_0 : w11.cell? ⟨w4.heap.size, 0, none⟩ = some (.slice A4 n4 c4) := (hb11.cell (p := ⟨w4.heap.size, 0, none⟩) (by show w4.heap.size < _; first | omega | (simp; omega) | simp)).trans kw0_0
  have zzw011 : w4.heap.size < w11.heap.size := by omega
  clear zzw010
  replace kx0_0 : w11.cell? ⟨w5.heap.size, 0, none⟩ = some (.slice A5 np0 c5) := (hb11.cell (p := ⟨w5.heap.size, 0, none⟩) (by show w5.heap.size < _; first | omega | (simp; omega) | simp)).trans kx0_0
  have zzx011 : w5.heap.size < w11.heap.size := by omega
  clear zzx010
  replace kg0_0 : w11.cell? ⟨w7.heap.size, 0, none⟩ = some (.slice A7 n7 c7) := (hb11.cell (p := ⟨w7.heap.size, 0, none⟩) (by show w7.heap.size < _; first | omega | (simp; omega) | simp)).trans kg0_0
  have zzg011 : w7.heap.size < w11.heap.size := by omega
  clear zzg010
  go_wp2_with fail
  refine (le_IntS _ (Nat.le_refl _) (O6).rdw (O11).rdw).mono ?_
  rintro e w12 ⟨rfl, hb12⟩
  have hs12 : w11.heap.size ≤ w12.heap.size := by have := hb12.size; (try simp at this); omega
  have HB12 := HB11.trans (hb12.mono HB11.size)
  replace O4 := (O4).below hb12 (by first | omega | (simp; omega) | simp)
  replace O5 := (O5).below hb12 (by first | omega | (simp; omega) | simp)
  replace O6 := (O6).below hb12 (by first | omega | (simp; omega) | simp)
  replace O7 := (O7).below hb12 (by first | omega | (simp; omega) | simp)
  replace O11 := (O11).below hb12 (by first | omega | (simp; omega) | simp)
  replace kaT_0 : w12.cell? ⟨w.heap.size, 0, none⟩ = some (.slice Ap0 np0 cp0) := (hb12.cell (p := ⟨w.heap.size, 0, none⟩) (by show w.heap.size < _; first | omega | (simp; omega) | simp)).trans kaT_0
  have zzaT12 : w.heap.size < w12.heap.size := by omega
  clear zzaT11
  replace kw0_0 : w12.cell? ⟨w4.heap.size, 0, none⟩ = some (.slice A4 n4 c4) := (hb12.cell (p := ⟨w4.heap.size, 0, none⟩) (by show w4.heap.size < _; first | omega | (simp; omega) | simp)).trans kw0_0
  have zzw012 : w4.heap.size < w12.heap.size := by omega
  clear zzw011
  replace kx0_0 : w12.cell? ⟨w5.heap.size, 0, none⟩ = some (.slice A5 np0 c5) := (hb12.cell (p := ⟨w5.heap.size, 0, none⟩) (by show w5.heap.size < _; first | omega | (simp; omega) | simp)).trans kx0_0
  have zzx012 : w5.heap.size < w12.heap.size := by omega
  clear zzx011
  replace kg0_0 : w12.cell? ⟨w7.heap.size, 0, none⟩ = some (.slice A7 n7 c7) := (hb12.cell (p := ⟨w7.heap.size, 0, none⟩) (by show w7.heap.size < _; first | omega | (simp; omega) | simp)).trans kg0_0
  have zzg012 : w7.heap.size < w12.heap.size := by omega
  clear zzg011
  clear O11
  go_wp2_with fail
  refine (lm_Track (1) _ O5 (by omega) (by omega)).mono ?_
  clear O5
  rintro e w13 ⟨rfl, ht13, O5⟩
  have hs13 : w12.heap.size ≤ w13.heap.size := ht13.size
  have HB13 := HB12.trans (ht13.below (by omega) HB12.size)
  replace O4 := O4.touch ht13 (by omega)
  replace O6 := O6.touch ht13 (by omega)
  replace O7 := O7.touch ht13 (by omega)
  replace kaT_0 : w13.cell? ⟨w.heap.size, 0, none⟩ = some (.slice Ap0 np0 cp0) := (ht13.cell (p := ⟨w.heap.size, 0, none⟩) (by show w.heap.size < _; omega) (by show w.heap.size < _ ∨ _ ≤ w.heap.size; omega)).trans kaT_0
  have zzaT13 : w.heap.size < w13.heap.size := by omega
  clear zzaT12
  replace kw0_0 : w13.cell? ⟨w4.heap.size, 0, none⟩ = some (.slice A4 n4 c4) := (ht13.cell (p := ⟨w4.heap.size, 0, none⟩) (by show w4.heap.size < _; omega) (by show w4.heap.size < _ ∨ _ ≤ w4.heap.size; omega)).trans kw0_0
  have zzw013 : w4.heap.size < w13.heap.size := by omega
  clear zzw012
  replace kx0_0 : w13.cell? ⟨w5.heap.size, 0, none⟩ = some (.slice A5 np0 c5) := (ht13.cell (p := ⟨w5.heap.size, 0, none⟩) (by show w5.heap.size < _; omega) (by show w5.heap.size < _ ∨ _ ≤ w5.heap.size; omega)).trans kx0_0
  have zzx013 : w5.heap.size < w13.heap.size := by omega
  clear zzx012
  replace kg0_0 : w13.cell? ⟨w7.heap.size, 0, none⟩ = some (.slice A7 n7 c7) := (ht13.cell (p := ⟨w7.heap.size, 0, none⟩) (by show w7.heap.size < _; omega) (by show w7.heap.size < _ ∨ _ ≤ w7.heap.size; omega)).trans kg0_0
  have zzg013 : w7.heap.size < w13.heap.size := by omega
  clear zzg012
  go_wp2_with fail
  refine (lm_IntS (1 + (np0 : Nat)) _ O6 (by omega) (by omega)).mono ?_
  clear O6
  rintro e w14 ⟨rfl, ht14, O6⟩
  have hs14 : w13.heap.size ≤ w14.heap.size := ht14.size
  have HB14 := HB13.trans (ht14.below (by omega) HB13.size)
  replace O4 := O4.touch ht14 (by omega)
  replace O5 := O5.touch ht14 (by omega)
  replace O7 := O7.touch ht14 (by omega)
  replace kaT_0 : w14.cell? ⟨w.heap.size, 0, none⟩ = some (.slice Ap0 np0 cp0) := (ht14.cell (p := ⟨w.heap.size, 0, none⟩) (by show w.heap.size < _; omega) (by show w.heap.size < _ ∨ _ ≤ w.heap.size; omega)).trans kaT_0
  have zzaT14 : w.heap.size < w14.heap.size := by omega
  clear zzaT13
  replace kw0_0 : w14.cell? ⟨w4.heap.size, 0, none⟩ = some (.slice A4 n4 c4) := (ht14.cell (p := ⟨w4.heap.size, 0, none⟩) (by show w4.heap.size < _; omega) (by show w4.heap.size < _ ∨ _ ≤ w4.heap.size; omega)).trans kw0_0
  have zzw014 : w4.heap.size < w14.heap.size := by omega
  clear zzw013
  replace kx0_0 : w14.cell? ⟨w5.heap.size, 0, none⟩ = some (.slice A5 np0 c5) := (ht14.cell (p := ⟨w5.heap.size, 0, none⟩) (by show w5.heap.size < _; omega) (by show w5.heap.size < _ ∨ _ ≤ w5.heap.size; omega)).trans kx0_0
  have zzx014 : w5.heap.size < w14.heap.size := by omega
  clear zzx013
  replace kg0_0 : w14.cell? ⟨w7.heap.size, 0, none⟩ = some (.slice A7 n7 c7) := (ht14.cell (p := ⟨w7.heap.size, 0, none⟩) (by show w7.heap.size < _; omega) (by show w7.heap.size < _ ∨ _ ≤ w7.heap.size; omega)).trans kg0_0
  have zzg014 : w7.heap.size < w14.heap.size := by omega
  clear zzg013
  go_wp2_with fail
  refine (le_Track _ (Nat.le_refl _) (O7).rdw (O4).rdw).mono ?_
  rintro e w15 ⟨rfl, hb15⟩
  have hs15 : w14.heap.size ≤ w15.heap.size := by have := hb15.size; (try simp at this); omega
  have HB15 := HB14.trans (hb15.mono HB14.size)
  replace O4 := (O4).below hb15 (by first | omega | (simp; omega) | simp)
  replace O5 := (O5).below hb15 (by first | omega | (simp; omega) | simp)
  replace O6 := (O6).below hb15 (by first | omega | (simp; omega) | simp)
  replace O7 := (O7).below hb15 (by first | omega | (simp; omega) | simp)
  replace kaT_0 : w15.cell? ⟨w.heap.size, 0, none⟩ = some (.slice Ap0 np0 cp0) := (hb15.cell (p := ⟨w.heap.size, 0, none⟩) (by show w.heap.size < _; first | omega | (simp; omega) | simp)).trans kaT_0
  have zzaT15 : w.heap.size < w15.heap.size := by omega
  clear zzaT14
  replace kw0_0 : w15.cell? ⟨w4.heap.size, 0, none⟩ = some (.slice A4 n4 c4) := (hb15.cell (p := ⟨w4.heap.size, 0, none⟩) (by show w4.heap.size < _; first | omega | (simp; omega) | simp)).trans kw0_0
  have zzw015 : w4.heap.size < w15.heap.size := by omega
  clear zzw014
  replace kx0_0 : w15.cell? ⟨w5.heap.size, 0, none⟩ = some (.slice A5 np0 c5) := (hb15.cell (p := ⟨w5.heap.size, 0, none⟩) (by show w5.heap.size < _; first | omega | (simp; omega) | simp)).trans kx0_0
  have zzx015 : w5.heap.size < w15.heap.size := by omega
  clear zzx014
  replace kg0_0 : w15.cell? ⟨w7.heap.size, 0, none⟩ = some (.slice A7 n7 c7) := (hb15.cell (p := ⟨w7.heap.size, 0, none⟩) (by show w7.heap.size < _; first | omega | (simp; omega) | simp)).trans kg0_0
  have zzg015 : w7.heap.size < w15.heap.size := by omega
  clear zzg014
  go_wp2_with fail
  refine (lm_Track (1) _ O7 (by omega) (by omega)).mono ?_
  clear O7
  rintro e w16 ⟨rfl, ht16, O7⟩
  have hs16 : w15.heap.size ≤ w16.heap.size := ht16.size
  have HB16 := HB15.trans (ht16.below (by omega) HB15.size)
  replace O4 := O4.touch ht16 (by omega)
  replace O5 := O5.touch ht16 (by omega)
  replace O6 := O6.touch ht16 (by omega)
  replace kaT_0 : w16.cell? ⟨w.heap.size, 0, none⟩ = some (.slice Ap0 np0 cp0) := (ht16.cell (p := ⟨w.heap.size, 0, none⟩) (by show w.heap.size < _; omega) (by show w.heap.size < _ ∨ _ ≤ w.heap.size; omega)).trans kaT_0
  have zzaT16 : w.heap.size < w16.heap.size := by omega
  clear zzaT15
  replace kw0_0 : w16.cell? ⟨w4.heap.size, 0, none⟩ = some (.slice A4 n4 c4) := (ht16.cell (p := ⟨w4.heap.size, 0, none⟩) (by show w4.heap.size < _; omega) (by show w4.heap.size < _ ∨ _ ≤ w4.heap.size; omega)).trans kw0_0
  have zzw016 : w4.heap.size < w16.heap.size := by omega
  clear zzw015
  replace kx0_0 : w16.cell? ⟨w5.heap.size, 0, none⟩ = some (.slice A5 np0 c5) := (ht16.cell (p := ⟨w5.heap.size, 0, none⟩) (by show w5.heap.size < _; omega) (by show w5.heap.size < _ ∨ _ ≤ w5.heap.size; omega)).trans kx0_0
  have zzx016 : w5.heap.size < w16.heap.size := by omega
  clear zzx015
  replace kg0_0 : w16.cell? ⟨w7.heap.size, 0, none⟩ = some (.slice A7 n7 c7) := (ht16.cell (p := ⟨w7.heap.size, 0, none⟩) (by show w7.heap.size < _; omega) (by show w7.heap.size < _ ∨ _ ≤ w7.heap.size; omega)).trans kg0_0
  have zzg016 : w7.heap.size < w16.heap.size := by omega
  clear zzg015
  go_wp2_with fail
  refine (lh_Track (1) _ (Nat.le_refl _) (O7).rdw (by omega) (by omega)).mono ?_
  rintro e w17 ⟨rfl, hb17⟩
  have hs17 : w16.heap.size ≤ w17.heap.size := by have := hb17.size; (try simp at this); omega
  have HB17 := HB16.trans (hb17.mono HB16.size)
  replace O4 := (O4).below hb17 (by first | omega | (simp; omega) | simp)
  replace O5 := (O5).below hb17 (by first | omega | (simp; omega) | simp)
  replace O6 := (O6).below hb17 (by first | omega | (simp; omega) | simp)
  replace O7 := (O7).below hb17 (by first | omega | (simp; omega) | simp)
  replace kaT_0 : w17.cell? ⟨w.heap.size, 0, none⟩ = some (.slice Ap0 np0 cp0) := (hb17.cell (p := ⟨w.heap.size, 0, none⟩) (by show w.heap.size < _; first | omega | (simp; omega) | simp)).trans kaT_0
  have zzaT17 : w.heap.size < w17.heap.size := by omega
  clear zzaT16
  replace kw0_0 : w17.cell? ⟨w4.heap.size, 0, none⟩ = some (.slice A4 n4 c4) := (hb17.cell (p := ⟨w4.heap.size, 0, none⟩) (by show w4.heap.size < _; first | omega | (simp; omega) | simp)).trans kw0_0
  have zzw017 : w4.heap.size < w17.heap.size := by omega
  clear zzw016
  replace kx0_0 : w17.cell? ⟨w5.heap.size, 0, none⟩ = some (.slice A5 np0 c5) := (hb17.cell (p := ⟨w5.heap.size, 0, none⟩) (by show w5.heap.size < _; first | omega | (simp; omega) | simp)).trans kx0_0
  have zzx017 : w5.heap.size < w17.heap.size := by omega
  clear zzx016
  replace kg0_0 : w17.cell? ⟨w7.heap.size, 0, none⟩ = some (.slice A7 n7 c7) := (hb17.cell (p := ⟨w7.heap.size, 0, none⟩) (by show w7.heap.size < _; first | omega | (simp; omega) | simp)).trans kg0_0
  have zzg017 : w7.heap.size < w17.heap.size := by omega
  clear zzg016
  go_wp2_with fail
  refine (lt_Track _ (HB17.size) (h0.below HB17 (Nat.le_refl _)) (by omega)).mono ?_
  rintro e w18 ⟨A18, c18, rfl, O18, hb18⟩
  have hs18 : w17.heap.size ≤ w18.heap.size := by have := hb18.size; (try simp at this); omega
  have HB18 := HB17.trans (hb18.mono HB17.size)
  replace O4 := (O4).below hb18 (by first | omega | (simp; omega) | simp)
  replace O5 := (O5).below hb18 (by first | omega | (simp; omega) | simp)
  replace O6 := (O6).below hb18 (by first | omega | (simp; omega) | simp)
  replace O7 := (O7).below hb18 (by first | omega | (simp; omega) | simp)
  replace kaT_0 : w18.cell? ⟨w.heap.size, 0, none⟩ = some (.slice Ap0 np0 cp0) := (hb18.cell (p := ⟨w.heap.size, 0, none⟩) (by show w.heap.size < _; first | omega | (simp; omega) | simp)).trans kaT_0
  have zzaT18 : w.heap.size < w18.heap.size := by omega
  clear zzaT17
  replace kw0_0 : w18.cell? ⟨w4.heap.size, 0, none⟩ = some (.slice A4 n4 c4) := (hb18.cell (p := ⟨w4.heap.size, 0, none⟩) (by show w4.heap.size < _; first | omega | (simp; omega) | simp)).trans kw0_0
  have zzw018 : w4.heap.size < w18.heap.size := by omega
  clear zzw017
  replace kx0_0 : w18.cell? ⟨w5.heap.size, 0, none⟩ = some (.slice A5 np0 c5) := (hb18.cell (p := ⟨w5.heap.size, 0, none⟩) (by show w5.heap.size < _; first | omega | (simp; omega) | simp)).trans kx0_0
  have zzx018 : w5.heap.size < w18.heap.size := by omega
  clear zzx017
  replace kg0_0 : w18.cell? ⟨w7.heap.size, 0, none⟩ = some (.slice A7 n7 c7) := (hb18.cell (p := ⟨w7.heap.size, 0, none⟩) (by show w7.heap.size < _; first | omega | (simp; omega) | simp)).trans kg0_0
  have zzg018 : w7.heap.size < w18.heap.size := by omega
  clear zzg017
  go_wp2_with fail
  refine (lt_IntS _ (HB18.size) (h2.below HB18 (Nat.le_refl _)) (by omega)).mono ?_
  rintro e w19 ⟨A19, c19, rfl, O19, hb19⟩
  have hs19 : w18.heap.size ≤ w19.heap.size := by have := hb19.size; (try simp at this); omega
  have HB19 := HB18.trans (hb19.mono HB18.size)
  replace O4 := (O4).below hb19 (by first | omega | (simp; omega) | simp)
  replace O5 := (O5).below hb19 (by first | omega | (simp; omega) | simp)
  replace O6 := (O6).below hb19 (by first | omega | (simp; omega) | simp)
  replace O7 := (O7).below hb19 (by first | omega | (simp; omega) | simp)
  replace O18 := (O18).below hb19 (by first | omega | (simp; omega) | simp)
  replace kaT_0 : w19.cell? ⟨w.heap.size, 0, none⟩ = some (.slice Ap0 np0 cp0) := (hb19.cell (p := ⟨w.heap.size, 0, none⟩) (by show w.heap.size < _; first | omega | (simp; omega) | simp)).trans kaT_0
  have zzaT19 : w.heap.size < w19.heap.size := by omega
  clear zzaT18
  replace kw0_0 : w19.cell? ⟨w4.heap.size, 0, none⟩ = some (.slice A4 n4 c4) := (hb19.cell (p := ⟨w4.heap.size, 0, none⟩) (by show w4.heap.size < _; first | omega | (simp; omega) | simp)).trans kw0_0
  have zzw019 : w4.heap.size < w19.heap.size := by omega
  clear zzw018
  replace kx0_0 : w19.cell? ⟨w5.heap.size, 0, none⟩ = some (.slice A5 np0 c5) := (hb19.cell (p := ⟨w5.heap.size, 0, none⟩) (by show w5.heap.size < _; first | omega | (simp; omega) | simp)).trans kx0_0
  have zzx019 : w5.heap.size < w19.heap.size := by omega
  clear zzx018
  replace kg0_0 : w19.cell? ⟨w7.heap.size, 0, none⟩ = some (.slice A7 n7 c7) := (hb19.cell (p := ⟨w7.heap.size, 0, none⟩) (by show w7.heap.size < _; first | omega | (simp; omega) | simp)).trans kg0_0
  have zzg019 : w7.heap.size < w19.heap.size := by omega
  clear zzg018
  go_wp2_with fail
  refine (i_AddInputs z1 _ (Nat.le_refl _) (O18).rdw (O19).rdw (by omega) (by omega)).mono ?_
  rintro e w20 ⟨A20, n20, c20, rfl, O20, hn20, hb20⟩
  have hs20 : w19.heap.size ≤ w20.heap.size := by have := hb20.size; (try simp at this); omega
  have HB20 := HB19.trans (hb20.mono HB19.size)
  replace O4 := (O4).below hb20 (by first | omega | (simp; omega) | simp)
  replace O5 := (O5).below hb20 (by first | omega | (simp; omega) | simp)
  replace O6 := (O6).below hb20 (by first | omega | (simp; omega) | simp)
  replace O7 := (O7).below hb20 (by first | omega | (simp; omega) | simp)
  replace kaT_0 : w20.cell? ⟨w.heap.size, 0, none⟩ = some (.slice Ap0 np0 cp0) := (hb20.cell (p := ⟨w.heap.size, 0, none⟩) (by show w.heap.size < _; first | omega | (simp; omega) | simp)).trans kaT_0
  have zzaT20 : w.heap.size < w20.heap.size := by omega
  clear zzaT19
  replace kw0_0 : w20.cell? ⟨w4.heap.size, 0, none⟩ = some (.slice A4 n4 c4) := (hb20.cell (p := ⟨w4.heap.size, 0, none⟩) (by show w4.heap.size < _; first | omega | (simp; omega) | simp)).trans kw0_0
  have zzw020 : w4.heap.size < w20.heap.size := by omega
  clear zzw019
  replace kx0_0 : w20.cell? ⟨w5.heap.size, 0, none⟩ = some (.slice A5 np0 c5) := (hb20.cell (p := ⟨w5.heap.size, 0, none⟩) (by show w5.heap.size < _; first | omega | (simp; omega) | simp)).trans kx0_0
  have zzx020 : w5.heap.size < w20.heap.size := by omega
  clear zzx019
  replace kg0_0 : w20.cell? ⟨w7.heap.size, 0, none⟩ = some (.slice A7 n7 c7) := (hb20.cell (p := ⟨w7.heap.size, 0, none⟩) (by show w7.heap.size < _; first | omega | (simp; omega) | simp)).trans kg0_0
  have zzg020 : w7.heap.size < w20.heap.size := by omega
  clear zzg019
  go_wp2_with fail
  refine (le_Track _ (Nat.le_refl _) (O20.alloc _).rdw (O4.alloc _).rdw).mono ?_
  rintro e w21 ⟨rfl, hb21⟩
  have hs21 : w20.heap.size + 1 ≤ w21.heap.size := by have := hb21.size; (try simp at this); omega
  have HB21 := (HB20.alloc (by first | omega | (simp; omega) | simp) _).trans (hb21.mono (HB20.alloc (by first | omega | (simp; omega) | simp) _).size)
  replace O4 := (O4.alloc _).below hb21 (by first | omega | (simp; omega) | simp)
  replace O5 := (O5.alloc _).below hb21 (by first | omega | (simp; omega) | simp)
  replace O6 := (O6.alloc _).below hb21 (by first | omega | (simp; omega) | simp)
  replace O7 := (O7.alloc _).below hb21 (by first | omega | (simp; omega) | simp)
  replace O20 := (O20.alloc _).below hb21 (by first | omega | (simp; omega) | simp)
  replace kaT_0 : w21.cell? ⟨w.heap.size, 0, none⟩ = some (.slice Ap0 np0 cp0) := (hb21.cell (p := ⟨w.heap.size, 0, none⟩) (by show w.heap.size < _; first | omega | (simp; omega) | simp)).trans ((World.cell?_alloc_lt _ _ _ (by show w.heap.size < _; first | omega | (simp; omega) | simp)).trans kaT_0)
  have zzaT21 : w.heap.size < w21.heap.size := by omega
  clear zzaT20
  replace kw0_0 : w21.cell? ⟨w4.heap.size, 0, none⟩ = some (.slice A4 n4 c4) := (hb21.cell (p := ⟨w4.heap.size, 0, none⟩) (by show w4.heap.size < _; first | omega | (simp; omega) | simp)).trans ((World.cell?_alloc_lt _ _ _ (by show w4.heap.size < _; first | omega | (simp; omega) | simp)).trans kw0_0)
  have zzw021 : w4.heap.size < w21.heap.size := by omega
  clear zzw020
  replace kx0_0 : w21.cell? ⟨w5.heap.size, 0, none⟩ = some (.slice A5 np0 c5) := (hb21.cell (p := ⟨w5.heap.size, 0, none⟩) (by show w5.heap.size < _; first | omega | (simp; omega) | simp)).trans ((World.cell?_alloc_lt _ _ _ (by show w5.heap.size < _; first | omega | (simp; omega) | simp)).trans kx0_0)
  have zzx021 : w5.heap.size < w21.heap.size := by omega
  clear zzx020
  replace kg0_0 : w21.cell? ⟨w7.heap.size, 0, none⟩ = some (.slice A7 n7 c7) := (hb21.cell (p := ⟨w7.heap.size, 0, none⟩) (by show w7.heap.size < _; first | omega | (simp; omega) | simp)).trans ((World.cell?_alloc_lt _ _ _ (by show w7.heap.size < _; first | omega | (simp; omega) | simp)).trans kg0_0)
  have zzg021 : w7.heap.size < w21.heap.size := by omega
  clear zzg020
  have kh0_0 : w21.cell? ⟨w20.heap.size, 0, none⟩ = some (.slice A20 n20 c20) := (hb21.cell (p := ⟨w20.heap.size, 0, none⟩) (by show w20.heap.size < _; first | omega | (simp; omega) | simp)).trans (by simp)
  have zzh021 : w20.heap.size < w21.heap.size := by omega
  go_wp2_with fail
  refine (lh_Track (1) _ (Nat.le_refl _) (O7).rdw (by omega) (by omega)).mono ?_
  rintro e w22 ⟨rfl, hb22⟩
  have hs22 : w21.heap.size ≤ w22.heap.size := by have := hb22.size; (try simp at this); omega
  have HB22 := HB21.trans (hb22.mono HB21.size)
  replace O4 := (O4).below hb22 (by first | omega | (simp; omega) | simp)
  replace O5 := (O5).below hb22 (by first | omega | (simp; omega) | simp)
  replace O6 := (O6).below hb22 (by first | omega | (simp; omega) | simp)
  replace O7 := (O7).below hb22 (by first | omega | (simp; omega) | simp)
  replace O20 := (O20).below hb22 (by first | omega | (simp; omega) | simp)
  replace kaT_0 : w22.cell? ⟨w.heap.size, 0, none⟩ = some (.slice Ap0 np0 cp0) := (hb22.cell (p := ⟨w.heap.size, 0, none⟩) (by show w.heap.size < _; first | omega | (simp; omega) | simp)).trans kaT_0
  have zzaT22 : w.heap.size < w22.heap.size := by omega
  clear zzaT21
  replace kw0_0 : w22.cell? ⟨w4.heap.size, 0, none⟩ = some (.slice A4 n4 c4) := (hb22.cell (p := ⟨w4.heap.size, 0, none⟩) (by show w4.heap.size < _; first | omega | (simp; omega) | simp)).trans kw0_0
  have zzw022 : w4.heap.size < w22.heap.size := by omega
  clear zzw021
  replace kx0_0 : w22.cell? ⟨w5.heap.size, 0, none⟩ = some (.slice A5 np0 c5) := (hb22.cell (p := ⟨w5.heap.size, 0, none⟩) (by show w5.heap.size < _; first | omega | (simp; omega) | simp)).trans kx0_0
  have zzx022 : w5.heap.size < w22.heap.size := by omega
  clear zzx021
  replace kg0_0 : w22.cell? ⟨w7.heap.size, 0, none⟩ = some (.slice A7 n7 c7) := (hb22.cell (p := ⟨w7.heap.size, 0, none⟩) (by show w7.heap.size < _; first | omega | (simp; omega) | simp)).trans kg0_0
  have zzg022 : w7.heap.size < w22.heap.size := by omega
  clear zzg021
  replace kh0_0 : w22.cell? ⟨w20.heap.size, 0, none⟩ = some (.slice A20 n20 c20) := (hb22.cell (p := ⟨w20.heap.size, 0, none⟩) (by show w20.heap.size < _; first | omega | (simp; omega) | simp)).trans kh0_0
  have zzh022 : w20.heap.size < w22.heap.size := by omega
  clear zzh021
  go_wp2_with fail
  go_ret
  exact ⟨rfl, HB22⟩

end Go.Proofs.Ytoolhhgfeklhcaa
