/- What is proved: contracts of the statements' own functions over packets: sizing, copying, comparing, marking, finding the marks.
   Conditions: none beyond those that each lemma names. -/
import Derived.Test.YtoolhhgfeklhcaaHelp
import Derived.Test.YtoolhhgfeklhcaaApp
namespace Go.Proofs.Ytoolhhgfeklhcaa
open Go.RowKit

def packetT : TY := .struct (.pair (.int .i64) (.pair (.int .i64) (.pair (.int .i64) (.pair (intsT 3) (.pair (intsT 3) (.pair (.int .i64) (.pair (.int .i64) (.pair (.int .i64) (.last (.int .i64))))))))))
/-- The two lists of a packet, read; owned. -/
def PacketRd (w : World) (B : Nat) (A : Option Addr) (n c : Nat) (D : Option Addr) (m d : Nat) (xs ys : List Int) : Prop := IntsRd w B A n c xs ∧ IntsRd w B D m d ys
def twoT (e : TypeId) : TY := .pair (intsT e) (intsT e)
def PacketIn (z : Bool) (e : TypeId) (lo hi : Nat) (w : World) (A : Option Addr) (n c : Nat) (D : Option Addr) (m d : Nat) (xs ys : List Int) : Prop := (twoT e).In z lo hi w [.slice A n c, .slice D m d] (xs, ys)
theorem two_rd {w : World} {hi : Nat} {e : TypeId} {A D : Option Addr} {n c m d : Nat} {xs ys : List Int} (h : (twoT e).Rd w hi [.slice A n c, .slice D m d] (xs, ys)) : PacketRd w hi A n c D m d xs ys := by
  obtain ⟨c1, c2, e1, ⟨A', n', c', rfl, h1⟩, ⟨D', m', d', rfl, h2⟩⟩ := h
  simp only [List.cons_append, List.nil_append, List.cons.injEq, Value.slice.injEq, and_true] at e1
  obtain ⟨⟨rfl, rfl, rfl⟩, rfl, rfl, rfl⟩ := e1
  exact ⟨h1, h2⟩
section
variable {z : Bool} {e : TypeId} {lo hi lo' hi' B : Nat} {w w' : World} {A D : Option Addr} {n c m d g : Nat} {xs ys : List Int}
theorem PacketRd.le (h : PacketRd w B A n c D m d xs ys) : n ≤ c ∧ c ≤ 9223372036854775807 ∧ m ≤ d ∧ d ≤ 9223372036854775807 := ⟨h.1.le.1, h.1.le.2, h.2.le.1, h.2.le.2⟩
theorem PacketRd.below (h : PacketRd w B A n c D m d xs ys) {B' : Nat} (hb : Below B' w w') (hB : B ≤ B') : PacketRd w' B A n c D m d xs ys := ⟨h.1.below hb hB, h.2.below hb hB⟩
theorem PacketRd.alloc (h : PacketRd w B A n c D m d xs ys) (hB : B ≤ w.heap.size) (o : Obj) : PacketRd (w.alloc o) B A n c D m d xs ys := ⟨h.1.alloc hB o, h.2.alloc hB o⟩
theorem PacketIn.rdw (h : PacketIn z e lo hi w A n c D m d xs ys) : PacketRd w w.heap.size A n c D m d xs ys := two_rd (TY.In.rdw h)
theorem PacketIn.below (h : PacketIn z e lo hi w A n c D m d xs ys) (hb : Below B w w') (hB : hi ≤ B) : PacketIn z e lo hi w' A n c D m d xs ys := TY.In.below h hb hB
theorem PacketIn.alloc (h : PacketIn z e lo hi w A n c D m d xs ys) (o : Obj) : PacketIn z e lo hi (w.alloc o) A n c D m d xs ys := TY.In.alloc h o
theorem PacketIn.drew (h : PacketIn z e lo hi w A n c D m d xs ys) : PacketIn z e lo hi w.drew A n c D m d xs ys := TY.In.drew h
theorem PacketIn.wider (h : PacketIn z e lo hi w A n c D m d xs ys) (h1 : lo' ≤ lo) (h2 : hi ≤ hi') : PacketIn z e lo' hi' w A n c D m d xs ys := TY.In.wider h h1 h2
theorem PacketIn.touch (h : PacketIn z e lo' hi' w A n c D m d xs ys) (ht : Touch lo hi w w') (hd : hi' ≤ lo ∨ hi ≤ lo') : PacketIn z e lo' hi' w' A n c D m d xs ys := TY.In.touch h ht hd
theorem PacketIn.mk {k : Nat} (h1 : IntsIn z e lo k w A n c xs) (h2 : IntsIn z e k hi w D m d ys) (hlo : lo ≤ k) (hm : k ≤ hi) : PacketIn z e lo hi w A n c D m d xs ys := TY.In.pair h1 h2 hlo hm
theorem PacketIn.mk2 {k : Nat} (h1 : IntsIn z e k hi w A n c xs) (h2 : IntsIn z e lo k w D m d ys) (hlo : lo ≤ k) (hm : k ≤ hi) : PacketIn z e lo hi w A n c D m d xs ys := TY.In.pair2 h1 h2 hlo hm
theorem IntsIn.of_blk (h : Blk w g e (intCells xs)) (hl : xs.length ≤ maxLen) (hw : ∀ k (hk : k < xs.length), wf64 xs[k]) (h1 : lo ≤ g) (h2 : g < hi) : IntsIn true e lo hi w (some ⟨g, 0, none⟩) xs.length xs.length xs :=
  IntsOwn.in_ ⟨rfl, Nat.le_refl _, hl, intCells xs, h, by simp [intCells], fun k x hx => by
    obtain ⟨hk, rfl⟩ := List.getElem?_eq_some_iff.1 hx
    exact ⟨by simp [intCells, hk], hw k hk⟩⟩ h1 h2
end
set_option maxHeartbeats 800000 in
theorem lz_Packet {B n c m d : Nat} {A D : Option Addr} {xs ys : List Int} {a tick first st sum time echo : Int} (left : Int) (w : World) (hB : B ≤ w.heap.size) (hx : PacketRd w B A n c D m d xs ys) (h1 : 0 ≤ left) (h2 : left ≤ 1048576) :
    Calls Try.prog 80 #[.agg #[.int .i64 a, .int .i64 tick, .int .i64 first, .slice A n c, .slice D m d, .int .i64 st, .int .i64 sum, .int .i64 time, .int .i64 echo], .int .i64 left] w fun e w' => e = .returned (.int .i64 (szI (n + m) left)) ∧ Below w.heap.size w w' := by
  have HX := Lib.hid (hx.1.alloc hB (.cells #[.int .i64 a, .int .i64 tick, .int .i64 first, .slice A n c, .slice D m d, .int .i64 st, .int .i64 sum, .int .i64 time, .int .i64 echo] 85))
  have HY := Lib.hid (hx.2.alloc hB (.cells #[.int .i64 a, .int .i64 tick, .int .i64 first, .slice A n c, .slice D m d, .int .i64 st, .int .i64 sum, .int .i64 time, .int .i64 echo] 85))
  clear hx
  by_cases g1 : left < n
  · have e1 : Hid (szI n left = -1) := if_pos g1
    have e2 : Hid (szI (n + m) left = -1) := szI_more g1 (by omega)
    go_enter Try.func80, Try.ntmps80
    go_wp2_with (go_at_call 155; refine (l_szIntS _ _ HX.out (by omega) h2).mono ?_; rintro e w1 ⟨rfl, rfl⟩; rw [e1.out])
    go_ret
    exact ⟨by rw [e2.out]; rfl, below1 _ _⟩
  · have e1 : Hid (szI n left = left - n) := if_neg g1
    by_cases g2 : left < (n + m : Nat)
    · have e2 : Hid (szI m (left - n) = -1) := if_pos (by omega)
      have e3 : Hid (szI (n + m) left = -1) := if_pos g2
      go_enter Try.func80, Try.ntmps80
      go_wp2_with fail
      refine (l_szIntS _ _ HX.out (by omega) h2).mono ?_
      rintro e w1 ⟨rfl, rfl⟩
      rw [e1.out]
      go_wp2_with fail
      refine (l_szIntS _ _ HY.out (by omega) (by omega)).mono ?_
      rintro e w1 ⟨rfl, rfl⟩
      rw [e2.out]
      go_wp2_with fail
      go_ret
      exact ⟨by rw [e3.out]; rfl, below1 _ _⟩
    · have e2 : Hid (szI m (left - n) = left - n - m) := if_neg (by omega)
      have e3 : Hid (szI (n + m) left = left - n - m) := by show szI _ _ = _; unfold szI; split <;> omega
      go_enter Try.func80, Try.ntmps80
      go_wp2_with fail
      refine (l_szIntS _ _ HX.out (by omega) h2).mono ?_
      rintro e w1 ⟨rfl, rfl⟩
      rw [e1.out]
      go_wp2_with fail
      refine (l_szIntS _ _ HY.out (by omega) (by omega)).mono ?_
      rintro e w1 ⟨rfl, rfl⟩
      rw [e2.out]
      go_wp2_with fail
      go_ret
      exact ⟨by rw [e3.out]; rfl, below1 _ _⟩
set_option maxHeartbeats 800000 in
theorem lt_Packet {B n c m d : Nat} {A D : Option Addr} {xs ys : List Int} {a tick first st sum time echo : Int} (w : World) (hB : B ≤ w.heap.size) (hx : PacketRd w B A n c D m d xs ys) (hn : n + m ≤ 1048576) :
    Calls Try.prog 82 #[.agg #[.int .i64 a, .int .i64 tick, .int .i64 first, .slice A n c, .slice D m d, .int .i64 st, .int .i64 sum, .int .i64 time, .int .i64 echo]] w fun e w' =>
      ∃ A' c' D' d', e = .returned (.agg #[.int .i64 a, .int .i64 tick, .int .i64 first, .slice A' n c', .slice D' m d', .int .i64 st, .int .i64 sum, .int .i64 time, .int .i64 echo]) ∧ PacketIn true 3 w.heap.size w'.heap.size w' A' n c' D' m d' xs ys ∧ Below w.heap.size w w' := by
  obtain ⟨hx1, hx2⟩ := hx
  have HX := Lib.hid hx1
  have HY := Lib.hid hx2
  have rd1 : ∀ o1 o2 o3, IntsRd (((w.alloc o1).alloc o2).alloc o3) B A n c xs := fun o1 o2 o3 => ((hx1.alloc hB o1).alloc (by simp; omega) o2).alloc (by simp; omega) o3
  have rd2 : ∀ o1 o2 o3 o4, IntsRd ((((w.alloc o1).alloc o2).alloc o3).alloc o4) B D m d ys := fun o1 o2 o3 o4 => (((hx2.alloc hB o1).alloc (by simp; omega) o2).alloc (by simp; omega) o3).alloc (by simp; omega) o4
  have RD1 := Lib.hid rd1
  have RD2 := Lib.hid rd2
  clear rd1 rd2 hx1 hx2
  go_enter Try.func82, Try.ntmps82
  go_wp2_with fail
  refine (l_toIntSE _ (by simp; omega) (RD1.out _ _ _) (by omega)).mono ?_
  rintro e w1 ⟨rfl, rfl⟩
  go_wp2_with fail
  refine (l_toIntSE _ (by simp; omega) (RD2.out _ _ _ _) (by omega)).mono ?_
  rintro e w1 ⟨rfl, rfl⟩
  go_wp2_with fail
  have B1 : ∀ o1 o2 o3 o5, Blk (((((w.alloc o1).alloc o2).alloc o3).alloc (.cells (intCells xs) 3)).alloc o5) (w.heap.size + 3) 3 (intCells xs) := fun o1 o2 o3 o5 => by
    have h := (Blk.new (((w.alloc o1).alloc o2).alloc o3) 3 (intCells xs)).alloc o5
    simp only [World.size_alloc] at h
    exact h
  have B2 : ∀ o1 o2 o3 o4, Blk (((((w.alloc o1).alloc o2).alloc o3).alloc o4).alloc (.cells (intCells ys) 3)) (w.heap.size + 4) 3 (intCells ys) := fun o1 o2 o3 o4 => by
    have h := Blk.new ((((w.alloc o1).alloc o2).alloc o3).alloc o4) 3 (intCells ys)
    simp only [World.size_alloc] at h
    exact h
  have hl1 := HX.out.len
  have hl2 := HY.out.len
  subst hl1 hl2
  refine bodyPost_ret (v := .agg #[.int .i64 a, .int .i64 tick, .int .i64 first, .slice (some ⟨w.heap.size + 3, 0, none⟩) xs.length xs.length, .slice (some ⟨w.heap.size + 4, 0, none⟩) ys.length ys.length, .int .i64 st, .int .i64 sum, .int .i64 time, .int .i64 echo]) (by simp [results, Try.results82, go_sem]) rfl ⟨_, _, _, _, rfl, PacketIn.mk (k := w.heap.size + 4) (IntsIn.of_blk ?_ (by simp only [maxLen]; omega) (fun k hk => HX.out.wf hk) (by omega) (by omega)) (IntsIn.of_blk ?_ (by simp only [maxLen]; omega) (fun k hk => HY.out.wf hk) (by omega) (by simp)) (by omega) (by simp), ?_⟩
  · exact B1 _ _ _ _
  · exact B2 _ _ _ _
  · exact ((((Below.refl _ _).alloc (Nat.le_refl _) _).alloc (by simp) _).alloc (by simp; omega) _).alloc (by simp; omega) _ |>.alloc (by simp; omega) _
set_option maxHeartbeats 1600000 in
theorem le_Packet {B n c m d n' c' m' d' : Nat} {A D A' D' : Option Addr} {xs ys : List Int} {a tick first st sum time echo : Int} (w : World) (hB : B ≤ w.heap.size) (hx : PacketRd w B A n c D m d xs ys) (hy : PacketRd w B A' n' c' D' m' d' xs ys) :
    Calls Try.prog 84 #[.agg #[.int .i64 a, .int .i64 tick, .int .i64 first, .slice A n c, .slice D m d, .int .i64 st, .int .i64 sum, .int .i64 time, .int .i64 echo], .agg #[.int .i64 a, .int .i64 tick, .int .i64 first, .slice A' n' c', .slice D' m' d', .int .i64 st, .int .i64 sum, .int .i64 time, .int .i64 echo]] w fun e w' => e = .returned (.bool true) ∧ Below w.heap.size w w' := by
  have hw2 := below2 w (.cells #[.int .i64 a, .int .i64 tick, .int .i64 first, .slice A n c, .slice D m d, .int .i64 st, .int .i64 sum, .int .i64 time, .int .i64 echo] 63) (.cells #[.int .i64 a, .int .i64 tick, .int .i64 first, .slice A' n' c', .slice D' m' d', .int .i64 st, .int .i64 sum, .int .i64 time, .int .i64 echo] 63)
  have HX := Lib.hid (hx.below hw2 hB)
  have HY := Lib.hid (hy.below hw2 hB)
  clear hx hy
  go_enter Try.func84, Try.ntmps84
  go_wp2_with fail
  refine (l_eqIntS _ HX.out.1 HY.out.1).mono ?_
  rintro e w1 ⟨rfl, q, rfl⟩
  rw [decide_eq_true rfl]
  go_wp2_with fail
  refine (l_eqIntS _ (HX.out.2.drewN q) (HY.out.2.drewN q)).mono ?_
  rintro e w1 ⟨rfl, q2, rfl⟩
  rw [decide_eq_true rfl]
  go_wp2_with fail
  go_ret
  exact ⟨rfl, by repeat (first | exact hw2 | refine below_drewN ?_ _)⟩
set_option maxHeartbeats 800000 in
theorem l_markPacket {z : Bool} {fp : List Nat} {n c m d : Nat} {A D : Option Addr} {xs ys : List Int} {a tick first st sum time echo : Int} (k : Int) (w : World) (hx : (twoT 3).Own z w fp [.slice A n c, .slice D m d] (xs, ys)) (hd : fp.Nodup) (h0 : 0 ≤ k) (h1 : k + (n + m : Nat) ≤ 4611686018427387904) :
    Calls Try.prog 106 #[.agg #[.int .i64 a, .int .i64 tick, .int .i64 first, .slice A n c, .slice D m d, .int .i64 st, .int .i64 sum, .int .i64 time, .int .i64 echo], .int .i64 k] w fun e w' => e = .returned (.int .i64 (k + (n + m : Nat))) ∧ Marked fp w w' ∧ (twoT 3).Own z w' fp [.slice A n c, .slice D m d] (iota k n, iota (k + n) m) := by
  obtain ⟨f1, f2, c1, c2, rfl, e2, o1, o2⟩ := hx
  obtain ⟨A', n', c', rfl, p1⟩ := o1
  obtain ⟨D', m', d', rfl, p2⟩ := o2
  simp only [List.cons_append, List.nil_append, List.cons.injEq, Value.slice.injEq, and_true] at e2
  obtain ⟨⟨rfl, rfl, rfl⟩, rfl, rfl, rfl⟩ := e2
  have o1 : (intsT 3).Own z w f1 [.slice A n c] xs := ⟨_, _, _, rfl, p1⟩
  have o2 : (intsT 3).Own z w f2 [.slice D m d] ys := ⟨_, _, _, rfl, p2⟩
  rw [List.nodup_append] at hd
  obtain ⟨d1, d2, d3⟩ := hd
  have O1 := Lib.hid (o1.alloc (.cells #[.int .i64 a, .int .i64 tick, .int .i64 first, .slice A n c, .slice D m d, .int .i64 st, .int .i64 sum, .int .i64 time, .int .i64 echo] 63))
  have O2 := Lib.hid (o2.alloc (.cells #[.int .i64 a, .int .i64 tick, .int .i64 first, .slice A n c, .slice D m d, .int .i64 st, .int .i64 sum, .int .i64 time, .int .i64 echo] 63))
  have L1 := Lib.hid o1.lt
  have L2 := Lib.hid o2.lt
  have K0 := Lib.hid (Blk.new w 63 #[.int .i64 a, .int .i64 tick, .int .i64 first, .slice A n c, .slice D m d, .int .i64 st, .int .i64 sum, .int .i64 time, .int .i64 echo])
  have D3 := Lib.hid d3
  clear p1 p2 o1 o2 d3
  go_enter Try.func106, Try.ntmps106
  go_wp2_with fail
  refine (l_markIntS _ _ O1.out h0 (by omega)).mono ?_
  rintro e w1 ⟨rfl, m1, o1'⟩
  have k1 : Blk w1 w.heap.size 63 _ := (m1.block w.heap.size (by simp) (fun h => by have := L1.out _ h; omega)).trans K0.out
  have c4 := k1.cell 4
  simp at c4
  have o2' := O2.out.keep fun g hg => m1.block g (O2.out.lt g hg) fun h => D3.out g h g hg rfl
  have M1 := Lib.hid m1
  have O1' := Lib.hid o1'
  clear m1 o1' k1
  go_wp2_with fail
  refine (l_markIntS _ _ o2' (by omega) (by omega)).mono ?_
  rintro e w2 ⟨rfl, m2, o2''⟩
  have o1'' := O1'.out.keep fun g hg => m2.block g (O1'.out.lt g hg) fun h => D3.out g hg g h rfl
  have MM := Lib.hid ((((Marked.refl (f1 ++ f2) w).alloc _).trans (M1.out.more fun g hg => by simp [hg])).trans (m2.more fun g hg => by simp [hg]))
  clear m2
  go_wp2_with fail
  go_ret
  exact ⟨by rw [Int.natCast_add, ← Int.add_assoc]; rfl, MM.out, f1, f2, _, _, rfl, rfl, o1'', o2''⟩
theorem lm_Packet {z : Bool} {lo hi n c m d : Nat} {A D : Option Addr} {xs ys : List Int} {a tick first st sum time echo : Int} (k : Int) (w : World) (hx : PacketIn z 3 lo hi w A n c D m d xs ys) (h0 : 0 ≤ k) (h1 : k + (n + m : Nat) ≤ 4611686018427387904) :
    Calls Try.prog 106 #[.agg #[.int .i64 a, .int .i64 tick, .int .i64 first, .slice A n c, .slice D m d, .int .i64 st, .int .i64 sum, .int .i64 time, .int .i64 echo], .int .i64 k] w fun e w' => e = .returned (.int .i64 (k + (n + m : Nat))) ∧ Touch lo hi w w' ∧ PacketIn z 3 lo hi w' A n c D m d (iota k n) (iota (k + n) m) :=
  TY.In.marked hx (y := (iota k n, iota (k + n) m)) fun _ h hd => l_markPacket k w h hd h0 h1
set_option maxHeartbeats 800000 in
theorem lh_Packet {B n c m d : Nat} {A D : Option Addr} {a tick first st sum time echo : Int} (k : Int) (w : World) (hB : B ≤ w.heap.size) (hx : PacketRd w B A n c D m d (iota k n) (iota (k + n) m)) (h0 : 0 ≤ k) (h1 : k + (n + m : Nat) ≤ 4611686018427387904) :
    Calls Try.prog 107 #[.agg #[.int .i64 a, .int .i64 tick, .int .i64 first, .slice A n c, .slice D m d, .int .i64 st, .int .i64 sum, .int .i64 time, .int .i64 echo], .int .i64 k] w fun e w' => e = .returned (.int .i64 (k + (n + m : Nat))) ∧ Below w.heap.size w w' := by
  have HX := Lib.hid (hx.alloc hB (.cells #[.int .i64 a, .int .i64 tick, .int .i64 first, .slice A n c, .slice D m d, .int .i64 st, .int .i64 sum, .int .i64 time, .int .i64 echo] 63))
  have hn : 0 ≤ (n : Int) := by omega
  have hm : 0 ≤ (m : Int) := by omega
  clear hx
  go_enter Try.func107, Try.ntmps107
  go_wp2_with fail
  refine (l_heldIntS _ _ HX.out.1 h0 (by omega)).mono ?_
  rintro e w1 ⟨rfl, rfl⟩
  go_wp2_with fail
  refine (l_heldIntS _ _ HX.out.2 (by omega) (by omega)).mono ?_
  rintro e w1 ⟨rfl, rfl⟩
  go_wp2_with fail
  go_ret
  exact ⟨by rw [Int.natCast_add, ← Int.add_assoc]; rfl, below1 _ _⟩
end Go.Proofs.Ytoolhhgfeklhcaa
