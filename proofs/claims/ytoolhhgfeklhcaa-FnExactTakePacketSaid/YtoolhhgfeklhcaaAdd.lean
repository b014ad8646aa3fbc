/- What is proved: contracts of the copying of lists of ints and tracks, and of AddInputs, program and reference alike.
   Conditions: none beyond those that each lemma names. -/
import Derived.Test.YtoolhhgfeklhcaaApp
import Derived.Test.YtoolhhgfeklhcaaPlain
import Derived.Deep.RegionHeld3
namespace Go.Proofs.Ytoolhhgfeklhcaa
open Go.RowKit

theorem Blk.setcell {w : World} {g : Nat} {t : TypeId} {u : Value} (h : Blk w g t #[u]) (v : Value) : (w.setCell ⟨g, 0, none⟩ v).cell? ⟨g, 0, none⟩ = some v := by rw [(h.set 0 v).cell 0]; rfl

/-- The box of a struct whose field is the row that is appended to: as it was. -/
theorem app_box {wr w3 : World} {o : Obj} {nb : Nat} {T e : TypeId} {base l c : Nat} {A : Option Addr} {u : Value} {xs : List Int} (h : Blk wr nb T #[u]) (hr : IntsRow base e wr A l c xs) (hne : e ≠ T) (hg : (wr.alloc o).grownBy w3 (Value.slice A l c).ownBlock) :
    w3.cell? ⟨nb, 0, none⟩ = some u ∧ w3.frozen? ⟨nb, 0, none⟩ = false := by
  have h3 := (h.alloc o).grown hg ((h.alloc o).ne_row (hr.alloc o).1 hne)
  exact ⟨by rw [h3.cell 0]; rfl, h3.frozen 0⟩
set_option maxHeartbeats 400000 in
theorem i_copyInts {B n c : Nat} {A : Option Addr} {xs : List Int} (w : World) (hx : IntsRd w B A n c xs) (hn : n ≤ 1048576) :
    Calls Try.prog 203 #[.slice A n c] w fun e w' => ∃ A' c', e = .returned (.slice A' n c') ∧ IntsRow w.heap.size 3 w' A' n c' xs ∧ Below w.heap.size w w' := by
  have HX := Lib.hid hx
  clear hx
  go_enter Try.func203, Try.ntmps203
  go_wp2_with (at_builtin; refine wpList_app_ints rfl _ _ 28 rfl 3 Try.underlying28 int_info rfl (IntsRow.nil _ w.heap.size 3) rfl HX.out (by omega) (Nat.le_refl _) ?_; intro A' c' w1 hrow hg; simp only [Nat.zero_add, List.nil_append] at hrow)
  go_ret
  exact ⟨A', c', by simp, hrow, grown_below hg (by simp [Value.ownBlock]) (Nat.le_refl _)⟩
set_option maxHeartbeats 400000 in
theorem i_copyTrack {B n c : Nat} {A : Option Addr} {xs : List Int} (w : World) (hB : B ≤ w.heap.size) (hx : IntsRd w B A n c xs) (hn : n ≤ 1048576) :
    Calls Try.prog 165 #[.agg #[.slice A n c]] w fun e w' => ∃ A' c', e = .returned (.agg #[.slice A' n c']) ∧ IntsRow (w.heap.size + 2) 3 w' A' n c' xs ∧ Below w.heap.size w w' := by
  have HX := Lib.hid ((hx.alloc hB (.cells #[.slice A n c] 56)).alloc (by simp; omega) (.cells #[.slice none 0 0] 56))
  have KB := Lib.hid (Blk.new (w.alloc (.cells #[.slice A n c] 56)) 56 #[.slice none 0 0])
  have H2 := below2 w (.cells #[.slice A n c] 56) (.cells #[.slice none 0 0] 56)
  clear hx
  go_enter Try.func165, Try.ntmps165
  go_wp2_with fail
  refine (i_copyInts _ HX.out hn).mono ?_
  rintro e w1 ⟨A', c', rfl, hrow, hb⟩
  simp only [World.size_alloc] at hrow
  have kb := KB.out.below hb (by simp)
  simp only [World.size_alloc] at kb
  have hc := kb.cell 0
  have hf := kb.frozen 0
  have hset := kb.setcell
  have hr2 := kb.keep_row (i := 0) (u := .slice A' n c') hrow (by decide)
  clear KB
  simp at hc
  go_wp2_with fail
  exact bodyPost_ret (v := .agg #[.slice A' n c']) (by simp [results, Try.results165, go_sem, hset]) rfl ⟨A', c', rfl, hr2, (H2.trans (hb.mono (by simp; omega))).setCell (by simp) _⟩
set_option maxHeartbeats 400000 in
theorem s_l03Copy {B n c : Nat} {A : Option Addr} {xs : List Int} (w : World) (hB : B ≤ w.heap.size) (hx : IntsRd w B A n c xs) (hn : n ≤ 1048576) :
    Calls Try.prog 164 #[.agg #[.slice A n c]] w fun e w' => ∃ A' c', e = .returned (.agg #[.slice A' n c']) ∧ IntsRow (w.heap.size + 2) 3 w' A' n c' xs ∧ Below w.heap.size w w' := by
  have HX := Lib.hid (((hx.alloc hB (.cells #[.slice A n c] 56)).alloc (by simp; omega) (.cells #[.slice none 0 0] 56)).alloc (by simp; omega) (.cells #[] 3))
  have KB := Lib.hid ((Blk.new (w.alloc (.cells #[.slice A n c] 56)) 56 #[.slice none 0 0]).alloc (.cells #[] 3))
  have H2 := below3 w (.cells #[.slice A n c] 56) (.cells #[.slice none 0 0] 56) (.cells #[] 3)
  have HE : Hid (IntsRow (w.heap.size + 2) 3 (((w.alloc (.cells #[.slice A n c] 56)).alloc (.cells #[.slice none 0 0] 56)).alloc (.cells #[] 3)) (some ⟨w.heap.size + 1 + 1, 0, none⟩) 0 0 []) := by
    have h := IntsRow.empty ((w.alloc (.cells #[.slice A n c] 56)).alloc (.cells #[.slice none 0 0] 56)) (w.heap.size + 2) 3 (by simp)
    show IntsRow _ _ _ _ _ _ _
    simpa using h
  clear hx
  go_enter Try.func164, Try.ntmps164
  go_wp2_with (at_builtin; refine wpList_app_ints rfl _ _ 28 rfl 3 Try.underlying28 int_info rfl HE.out rfl HX.out (by omega) (by simp) ?_; intro A' c' w1 hrow hg; simp only [Nat.zero_add, List.nil_append] at hrow; have kb := KB.out.grown hg (by simp [Value.ownBlock]); simp only [World.size_alloc] at kb; have hc := kb.cell 0; have hf := kb.frozen 0; have hset := kb.setcell; have hr2 := kb.keep_row (i := 0) (u := .slice A' n c') hrow (by decide); clear KB kb; simp at hc)
  exact bodyPost_ret (v := .agg #[.slice A' n c']) (by simp [results, Try.results164, go_sem, hset]) rfl ⟨A', c', rfl, hr2, (H2.trans (grown_below hg (by simp [Value.ownBlock]; omega) (by simp; omega))).setCell (by simp) _⟩
end Go.Proofs.Ytoolhhgfeklhcaa
