/- What is proved: the contracts of the statements' own functions in one form each: sizing, copying, comparing, marking, finding the marks.
   Conditions: none beyond those that each lemma names. -/
import Derived.Test.YtoolhhgfeklhcaaRowM
namespace Go.Proofs.Ytoolhhgfeklhcaa
open Go.RowKit

def trackT : TY := .struct (.last (intsT 3))
theorem Touch.cell {lo hi : Nat} {w w' : World} {p : Addr} (h : Touch lo hi w w') (h1 : p.block < w.heap.size) (h2 : p.block < lo ∨ hi ≤ p.block) : w'.cell? p = w.cell? p := World.cell?_of_block (h.block p.block h1 h2)

theorem Touch.set (w : World) (b o : Nat) (v : Value) : Touch b (b + 1) w (w.setCell ⟨b, o, none⟩ v) := ⟨rfl, rfl, rfl, by simp [World.setCell], fun g _ hg => Below.heap_setCell w _ v g (by show g ≠ b; omega)⟩
theorem Touch.trans {lo hi : Nat} {w w' w'' : World} (h : Touch lo hi w w') (h' : Touch lo hi w' w'') : Touch lo hi w w'' := ⟨h'.os.trans h.os, h'.tape.trans h.tape, h'.output.trans h.output, Nat.le_trans h.size h'.size, fun g h1 hg => (h'.block g (Nat.lt_of_lt_of_le h1 h.size) hg).trans (h.block g h1 hg)⟩
theorem IntsIn.drew {z : Bool} {e lo hi n c : Nat} {w : World} {A : Option Addr} {xs : List Int} (h : IntsIn z e lo hi w A n c xs) : IntsIn z e lo hi w.drew A n c xs := TY.In.drew h
theorem RowsIn.drew {z : Bool} {e e1 lo hi n c : Nat} {w : World} {A : Option Addr} {ts : List (List Int)} (h : RowsIn z e e1 lo hi w A n c ts) : RowsIn z e e1 lo hi w.drew A n c ts := TY.In.drew h
theorem lz_IntS {B n c : Nat} {A : Option Addr} {xs : List Int} (left : Int) (w : World) (_hB : B ≤ w.heap.size) (hx : IntsRd w B A n c xs) (h1 : 0 ≤ left) (h2 : left ≤ 1048576) :
    Calls Try.prog 155 #[.slice A n c, .int .i64 left] w fun e w' => e = .returned (.int .i64 (szI n left)) ∧ Below w.heap.size w w' :=
  (l_szIntS left w hx (by omega) h2).mono fun _ _ ⟨he, hw⟩ => ⟨he, by subst hw; exact Below.refl _ _⟩
theorem lz_Track {B n c : Nat} {A : Option Addr} {xs : List Int} (left : Int) (w : World) (hB : B ≤ w.heap.size) (hx : IntsRd w B A n c xs) (h1 : 0 ≤ left) (h2 : left ≤ 1048576) :
    Calls Try.prog 58 #[.agg #[.slice A n c], .int .i64 left] w fun e w' => e = .returned (.int .i64 (szI n left)) ∧ Below w.heap.size w w' :=
  (l_szTrack left w hB hx (by omega) h2).mono fun _ _ ⟨he, hw⟩ => ⟨he, by subst hw; exact below1 _ _⟩
theorem lt_IntS {B n c : Nat} {A : Option Addr} {xs : List Int} (w : World) (hB : B ≤ w.heap.size) (hx : IntsRd w B A n c xs) (hn : n ≤ 1048576) :
    Calls Try.prog 42 #[.slice A n c] w fun e w' => ∃ A' c', e = .returned (.slice A' n c') ∧ IntsIn true 3 w.heap.size w'.heap.size w' A' n c' xs ∧ Below w.heap.size w w' :=
  (l_toIntSI w hB hx hn).mono fun _ _ ⟨he, h⟩ => ⟨_, _, he, h⟩
theorem lt_Track {B n c : Nat} {A : Option Addr} {xs : List Int} (w : World) (hB : B ≤ w.heap.size) (hx : IntsRd w B A n c xs) (hn : n ≤ 1048576) :
    Calls Try.prog 60 #[.agg #[.slice A n c]] w fun e w' => ∃ A' c', e = .returned (.agg #[.slice A' n c']) ∧ IntsIn true 3 w.heap.size w'.heap.size w' A' n c' xs ∧ Below w.heap.size w w' :=
  (l_toTrackI w hB hx hn).mono fun _ _ ⟨he, h⟩ => ⟨_, _, he, h⟩
theorem le_IntS {B n c m d : Nat} {A A' : Option Addr} {xs : List Int} (w : World) (_hB : B ≤ w.heap.size) (hx : IntsRd w B A n c xs) (hy : IntsRd w B A' m d xs) :
    Calls Try.prog 45 #[.slice A n c, .slice A' m d] w fun e w' => e = .returned (.bool true) ∧ Below w.heap.size w w' := l_eqIntS_same w hx hy
theorem le_Track {B n c m d : Nat} {A A' : Option Addr} {xs : List Int} (w : World) (hB : B ≤ w.heap.size) (hx : IntsRd w B A n c xs) (hy : IntsRd w B A' m d xs) :
    Calls Try.prog 62 #[.agg #[.slice A n c], .agg #[.slice A' m d]] w fun e w' => e = .returned (.bool true) ∧ Below w.heap.size w w' := l_eqTrack_same w hB hx hy
theorem lm_IntS {z : Bool} {lo hi n c : Nat} {A : Option Addr} {xs : List Int} (k : Int) (w : World) (hx : IntsIn z 3 lo hi w A n c xs) (h0 : 0 ≤ k) (h1 : k + n ≤ 4611686018427387904) :
    Calls Try.prog 91 #[.slice A n c, .int .i64 k] w fun e w' => e = .returned (.int .i64 (k + n)) ∧ Touch lo hi w w' ∧ IntsIn z 3 lo hi w' A n c (iota k n) :=
  TY.In.marked hx (y := iota k n) fun _ h _ => l_markIntS k w h h0 h1
theorem lh_IntS {B n c : Nat} {A : Option Addr} (k : Int) (w : World) (_hB : B ≤ w.heap.size) (hx : IntsRd w B A n c (iota k n)) (h0 : 0 ≤ k) (h1 : k + n ≤ 4611686018427387904) :
    Calls Try.prog 119 #[.slice A n c, .int .i64 k] w fun e w' => e = .returned (.int .i64 (k + n)) ∧ Below w.heap.size w w' :=
  (l_heldIntS k w hx h0 h1).mono fun _ _ ⟨he, hw⟩ => ⟨he, by subst hw; exact Below.refl _ _⟩
set_option maxHeartbeats 400000 in
theorem l_markTrack {z : Bool} {fp : List Nat} {n c : Nat} {A : Option Addr} {xs : List Int} (k : Int) (w : World) (hx : (intsT 3).Own z w fp [.slice A n c] xs) (h0 : 0 ≤ k) (h1 : k + n ≤ 4611686018427387904) :
    Calls Try.prog 90 #[.agg #[.slice A n c], .int .i64 k] w fun e w' => e = .returned (.int .i64 (k + n)) ∧ Marked fp w w' ∧ (intsT 3).Own z w' fp [.slice A n c] (iota k n) := by
  have HX := Lib.hid (hx.alloc (.cells #[.slice A n c] 56))
  have HM := Lib.hid ((Marked.refl fp w).alloc (.cells #[.slice A n c] 56))
  clear hx
  go_enter Try.func90, Try.ntmps90
  go_wp2_with (go_at_call 91; refine (l_markIntS _ _ HX.out h0 h1).mono ?_; rintro e w1 ⟨rfl, ht, ho⟩)
  go_ret
  exact ⟨rfl, HM.out.trans ht, ho⟩
theorem lm_Track {z : Bool} {lo hi n c : Nat} {A : Option Addr} {xs : List Int} (k : Int) (w : World) (hx : IntsIn z 3 lo hi w A n c xs) (h0 : 0 ≤ k) (h1 : k + n ≤ 4611686018427387904) :
    Calls Try.prog 90 #[.agg #[.slice A n c], .int .i64 k] w fun e w' => e = .returned (.int .i64 (k + n)) ∧ Touch lo hi w w' ∧ IntsIn z 3 lo hi w' A n c (iota k n) :=
  TY.In.marked hx (y := iota k n) fun _ h _ => l_markTrack k w h h0 h1
set_option maxHeartbeats 400000 in
theorem lh_Track {B n c : Nat} {A : Option Addr} (k : Int) (w : World) (hB : B ≤ w.heap.size) (hx : IntsRd w B A n c (iota k n)) (h0 : 0 ≤ k) (h1 : k + n ≤ 4611686018427387904) :
    Calls Try.prog 92 #[.agg #[.slice A n c], .int .i64 k] w fun e w' => e = .returned (.int .i64 (k + n)) ∧ Below w.heap.size w w' := by
  have HX := Lib.hid (hx.alloc hB (.cells #[.slice A n c] 56))
  have hn : 0 ≤ (n : Int) := by omega
  clear hx
  go_enter Try.func92, Try.ntmps92
  go_wp2_with (go_at_call 119; refine (l_heldIntS _ _ HX.out h0 h1).mono ?_; rintro e w1 ⟨rfl, rfl⟩)
  go_ret
  exact ⟨rfl, below1 _ _⟩
theorem lz_TrackS {B n c : Nat} {A : Option Addr} {ts : List (List Int)} (left : Int) (w : World) (hB : B ≤ w.heap.size) (hx : TracksRd w B A n c ts) (h1 : 0 ≤ left) (h2 : left ≤ 1048576) :
    Calls Try.prog 75 #[.slice A n c, .int .i64 left] w fun e w' => e = .returned (.int .i64 (szI (n + sumLen ts) left)) ∧ Below w.heap.size w w' := l_szTrackS left w hB hx h1 h2
theorem lt_TrackS {B n c : Nat} {A : Option Addr} {ts : List (List Int)} (w : World) (hB : B ≤ w.heap.size) (hx : TracksRd w B A n c ts) (hn : n + sumLen ts ≤ 1048576) :
    Calls Try.prog 77 #[.slice A n c] w fun e w' => ∃ A' c', e = .returned (.slice A' n c') ∧ RowsIn true 56 3 w.heap.size w'.heap.size w' A' n c' ts ∧ Below w.heap.size w w' :=
  (l_toTrackS w hB hx hn).mono fun _ _ ⟨he, h⟩ => ⟨_, _, he, h⟩
theorem le_TrackS {B n c m d : Nat} {A A' : Option Addr} {ts : List (List Int)} (w : World) (hB : B ≤ w.heap.size) (hx : TracksRd w B A n c ts) (hy : TracksRd w B A' m d ts) :
    Calls Try.prog 79 #[.slice A n c, .slice A' m d] w fun e w' => e = .returned (.bool true) ∧ Below w.heap.size w w' := l_eqTrackS_same w hB hx hy
theorem lm_TrackS {z : Bool} {lo hi n c : Nat} {A : Option Addr} {ts : List (List Int)} (k : Int) (w : World) (hx : RowsIn z 56 3 lo hi w A n c ts) (h0 : 0 ≤ k) (h1 : k + sumLen ts ≤ 4611686018427387904) :
    Calls Try.prog 123 #[.slice A n c, .int .i64 k] w fun e w' => e = .returned (.int .i64 (k + sumLen ts)) ∧ Touch lo hi w w' ∧ RowsIn z 56 3 lo hi w' A n c (markRows k ts) :=
  TY.In.marked hx (y := markRows k ts) fun _ h hd => l_markTrackS k w h hd h0 h1
theorem lh_TrackS {B n c : Nat} {A : Option Addr} {ts : List (List Int)} (k : Int) (w : World) (_hB : B ≤ w.heap.size) (hx : TracksRd w B A n c (markRows k ts)) (h0 : 0 ≤ k) (h1 : k + sumLen ts ≤ 4611686018427387904) :
    Calls Try.prog 135 #[.slice A n c, .int .i64 k] w fun e w' => e = .returned (.int .i64 (k + sumLen ts)) ∧ Below w.heap.size w w' :=
  (l_heldTrackS k w hx h0 h1).mono fun _ _ ⟨he, hw⟩ => ⟨he, by subst hw; exact Below.refl _ _⟩
theorem lz_IntSS {B n c : Nat} {A : Option Addr} {ts : List (List Int)} (left : Int) (w : World) (hB : B ≤ w.heap.size) (hx : TracksRd w B A n c ts) (h1 : 0 ≤ left) (h2 : left ≤ 1048576) :
    Calls Try.prog 111 #[.slice A n c, .int .i64 left] w fun e w' => e = .returned (.int .i64 (szI (n + sumLen ts) left)) ∧ Below w.heap.size w w' := l_szIntSS left w hB hx h1 h2
theorem lt_IntSS {B n c : Nat} {A : Option Addr} {ts : List (List Int)} (w : World) (hB : B ≤ w.heap.size) (hx : TracksRd w B A n c ts) (hn : n + sumLen ts ≤ 1048576) :
    Calls Try.prog 113 #[.slice A n c] w fun e w' => ∃ A' c', e = .returned (.slice A' n c') ∧ RowsIn true 28 3 w.heap.size w'.heap.size w' A' n c' ts ∧ Below w.heap.size w w' :=
  (l_toIntSS w hB hx hn).mono fun _ _ ⟨he, h⟩ => ⟨_, _, he, h⟩
theorem le_IntSS {B n c m d : Nat} {A A' : Option Addr} {ts : List (List Int)} (w : World) (hB : B ≤ w.heap.size) (hx : TracksRd w B A n c ts) (hy : TracksRd w B A' m d ts) :
    Calls Try.prog 114 #[.slice A n c, .slice A' m d] w fun e w' => e = .returned (.bool true) ∧ Below w.heap.size w w' := l_eqIntSS_same w hB hx hy
theorem lm_IntSS {z : Bool} {lo hi n c : Nat} {A : Option Addr} {ts : List (List Int)} (k : Int) (w : World) (hx : RowsIn z 28 3 lo hi w A n c ts) (h0 : 0 ≤ k) (h1 : k + sumLen ts ≤ 4611686018427387904) :
    Calls Try.prog 115 #[.slice A n c, .int .i64 k] w fun e w' => e = .returned (.int .i64 (k + sumLen ts)) ∧ Touch lo hi w w' ∧ RowsIn z 28 3 lo hi w' A n c (markRows k ts) :=
  TY.In.marked hx (y := markRows k ts) fun _ h hd => l_markIntSS k w h hd h0 h1
theorem lh_IntSS {B n c : Nat} {A : Option Addr} {ts : List (List Int)} (k : Int) (w : World) (_hB : B ≤ w.heap.size) (hx : TracksRd w B A n c (markRows k ts)) (h0 : 0 ≤ k) (h1 : k + sumLen ts ≤ 4611686018427387904) :
    Calls Try.prog 116 #[.slice A n c, .int .i64 k] w fun e w' => e = .returned (.int .i64 (k + sumLen ts)) ∧ Below w.heap.size w w' :=
  (l_heldIntSS k w hx h0 h1).mono fun _ _ ⟨he, hw⟩ => ⟨he, by subst hw; exact Below.refl _ _⟩
end Go.Proofs.Ytoolhhgfeklhcaa
