/- What is proved: contracts on the cursor of the drawn data, and on drawn tracks, the reference's.
   Conditions: none. -/
import Derived.Test.YtmkpgcahmbancaaT9
import Derived.Test.YtmkpgcahmbancaaT31
namespace Go.Proofs.Ytmkpgcahmbancaa
set_option linter.unusedSimpArgs false
set_option linter.unusedVariables false
open Go.RowKit Ab
def agreeB (a b : List Int) (i : Int) : Bool := decide (0 ≤ i ∧ i < a.length ∧ i < b.length ∧ a.getD i.toNat default = b.getD i.toNat default)
def probe (l h : Int) : Int := if 0 ≤ l ∧ h ≤ 1000000 ∧ 2 ≤ h ∧ l ≤ h - 2 then (l + h) / 2 else -1
def narrowed (l h s : Int) (ag : Bool) : Int × Int × Int := if probe l h < 0 then (l, h, s) else if ag = true then (probe l h, h, if s < 1000000 then s + 1 else s) else (l, probe l h, if s < 1000000 then s + 1 else s)
/-- The lists are alike up to k and never again. -/
def Parted (a b : List Int) (n k : Nat) : Prop := a.length = n ∧ b.length = n ∧ 1 ≤ k ∧ k < n ∧ n ≤ 202 ∧ ∀ i, i < n → (a.getD i default = b.getD i default ↔ i < k)
def huntS (k : Int) : Nat → Int → Int → Int → Int
  | 0, _, _, s => s
  | f + 1, l, h, s => if l ≤ h - 2 then (if (l + h) / 2 < k then huntS k f ((l + h) / 2) h (s + 1) else huntS k f l ((l + h) / 2) (s + 1)) else s
end Go.Proofs.Ytmkpgcahmbancaa
namespace Go.Proofs.Ytmkpgcahmbancaa
set_option linter.unusedSimpArgs false
set_option linter.unusedVariables false
open Go.RowKit Ab
def codeE (xs : List Int) : List (List T) := xs.map fun x => [T.int .u8 x]
theorem rdT_code {P : Program} {e : TypeId} {xs : List Int} (h : RdT P (.lst true e (codeE xs))) : xs.length ≤ 9223372036854775807 ∧ ∀ k, k < xs.length → 0 ≤ xs.getD k default ∧ xs.getD k default ≤ 255 := by
  obtain ⟨h1, h2, h3⟩ := rdT_lst h
  refine ⟨by simpa [codeE] using h1, fun k hk => ?_⟩
  have hu : ∀ x ∈ codeE xs, x.length = 1 := fun x hx => by obtain ⟨p, _, rfl⟩ := List.mem_map.1 hx; rfl
  have h4 := flatten_at hu (i := k) (j := 0) (by simpa [codeE] using hk) (by omega)
  have h5 : (codeE xs).getD k [] = [T.int .u8 (xs.getD k default)] := getD_map hk
  rw [h5] at h4
  obtain ⟨w, B, u, hr⟩ := h3 _ _ h4
  cases hr with
  | int hw =>
    simp only [Lit.wf, Bool.and_eq_true, decide_eq_true_eq] at hw
    exact hw
def atV (xs : List Int) (i : Int) : Int := if xs.length = 0 then 0 else xs.getD ((i * 5 + 1) % xs.length).toNat default
theorem atV_in {xs : List Int} (h : ∀ k, k < xs.length → 0 ≤ xs.getD k default ∧ xs.getD k default ≤ 255) (i : Int) : 0 ≤ atV xs i ∧ atV xs i ≤ 255 := by
  unfold atV
  split
  · omega
  · rename_i h0
    have h1 : 0 ≤ (i * 5 + 1) % (xs.length : Int) := Int.emod_nonneg _ (by omega)
    have h2 : (i * 5 + 1) % (xs.length : Int) < xs.length := Int.emod_lt_of_pos _ (by omega)
    exact h _ (by omega)
set_option maxRecDepth 20000 in
set_option maxHeartbeats 4000000 in
theorem a_l_at (xs : List Int) (i : Int) (hi : 0 ≤ i ∧ i ≤ 1000000) : AC Try.prog 23 [.t (.lst true 5 (codeE xs)), .t (.int .i64 i)] (.t (.int .i64 (atV xs i))) := by
  refine AC.go Try.func23 Try.ntmps23 fun B W hr => ?_
  obtain ⟨us, hus⟩ := hr
  obtain ⟨hl, hb⟩ := rdT_code (rdT_arg hus (i := 0) rfl)
  clear hus
  have hel : (codeE xs).length = xs.length := List.length_map _
  by_cases h0 : xs.length = 0
  · rw [show atV xs i = 0 from if_pos h0]
    repeat' (first | refine pa ?_ | (refine pb ?_ ?_ <;> intro hg) | refine po ?_ | fail)
    all_goals first
      | (refine pfin ?_; exact .inl rfl)
      | (exfalso; omega)
  · rw [show atV xs i = xs.getD ((i * 5 + 1) % xs.length).toNat default from if_neg h0]
    have h1 : 0 ≤ (i * 5 + 1) % (xs.length : Int) := Int.emod_nonneg _ (by omega)
    have h2 : (i * 5 + 1) % (xs.length : Int) < xs.length := Int.emod_lt_of_pos _ (by omega)
    have ht : (i * 5 + 1).tmod (xs.length : Int) = (i * 5 + 1) % xs.length := Int.tmod_eq_emod_of_nonneg (by omega)
    obtain ⟨m, hm⟩ := Int.eq_ofNat_of_zero_le h1
    have hml : m < xs.length := by omega
    have hbm := hb m hml
    repeat' (first | refine pa ?_ | (refine pb ?_ ?_ <;> intro hg) | refine po ?_ | fail)
    all_goals try (exfalso; omega)
    have hget : (codeE xs).getD ((i * 5 + 1).tmod (xs.length : Int)).toNat [] = [T.int .u8 (xs.getD m default)] := by
      rw [ht, hm, Int.toNat_natCast]
      exact getD_map hml
    refine OpS.load_rptr (cs := [T.int .u8 (xs.getD m default)]) (off := 0) rfl (congrArg (fun c => V.rptr c 0) hget) (Try.ti rfl) rfl ?_
    repeat' (first | refine pa ?_ | (refine pb ?_ ?_ <;> intro hg) | refine po ?_ | fail)
    refine pfin ?_
    refine .inl (congrArg (T.int .i64) ?_)
    rw [hm, Int.toNat_natCast]
    exact wrap_i64 (by omega)
set_option maxRecDepth 20000 in
set_option maxHeartbeats 4000000 in
theorem a_l_big (xs : List Int) : AC Try.prog 21 [.t (.lst true 5 (codeE xs))] (.t (.bool (decide (1048576 < (xs.length : Int))))) := by
  have hel : (codeE xs).length = xs.length := List.length_map _
  refine AC.go Try.func21 Try.ntmps21 fun B W hr => ?_
  repeat' (first | refine pa ?_ | (refine pb ?_ ?_ <;> intro hg) | refine po ?_ | fail)
  refine pfin ?_
  exact .inl rfl
end Go.Proofs.Ytmkpgcahmbancaa
namespace Go.Proofs.Ytmkpgcahmbancaa
set_option linter.unusedSimpArgs false
set_option linter.unusedVariables false
open Go.RowKit Ab
def andN (a : Int) : Nat := (BitVec.ofInt 64 a &&& BitVec.ofInt 64 255).toNat
theorem andN_le (a : Int) : andN a ≤ 255 := by
  unfold andN
  rw [BitVec.toNat_and]
  exact Nat.and_le_right
theorem and_255 (a : Int) : bits .and .i64 a 255 = (andN a : Int) := by
  have h := andN_le a
  have e2 : bits .and .i64 a 255 = IntKind.i64.wrap ((andN a : Nat) : Int) := rfl
  rw [e2]
  exact wrap_i64 (by omega)
theorem and_255w (a : Int) : IntKind.i64.wrap (((BitVec.ofInt IntKind.i64.bits a &&& BitVec.ofInt IntKind.i64.bits 255).toNat : Nat) : Int) = (andN a : Int) := and_255 a
theorem and_255r (a : Int) : 0 ≤ IntKind.i64.wrap (((BitVec.ofInt IntKind.i64.bits a &&& BitVec.ofInt IntKind.i64.bits 255).toNat : Nat) : Int) ∧ IntKind.i64.wrap (((BitVec.ofInt IntKind.i64.bits a &&& BitVec.ofInt IntKind.i64.bits 255).toNat : Nat) : Int) ≤ 255 := by
  rw [and_255w]
  have := andN_le a
  omega
set_option maxRecDepth 20000 in
set_option maxHeartbeats 4000000 in
theorem a_s_l01New (xs : List Int) (hxl : xs.length ≤ 1048576) : AMP Try.prog 79 [] [.t (.lst true 5 (codeE xs))] (α := Int) (fun h => [(31, 1, .box 144 [.t (.lst true 5 (codeE xs)), .t (.int .i64 (0 : Nat)), .t (.int .i64 h)])]) (fun _ => .ptr 31 1 0 0) (fun _ => True) := by
  have hel : (codeE xs).length = xs.length := List.length_map _
  refine AMP.go Try.func79 Try.ntmps79 fun B W hr => ?_
  repeat' (first | refine pa ?_ | (refine pb ?_ ?_ <;> intro hg) | refine po ?_ | fail)
  refine aW.loopF rfl (fun q : Nat × Int => [(4, .t (.int .i64 q.1)), (3, .t (.int .i64 q.2))]) [(0, _)] (fun q : Nat × Int => []) [] (fun q : Nat × Int => q.1 ≤ 4000) (fun q : Nat × Int => 4000 - q.1) (0, _) (by show 0 ≤ 4000; omega) (by (exact plei)) ?_
  rintro ⟨k, h⟩ hk
  have hk : k ≤ 4000 := hk
  dsimp only [List.cons_append, List.nil_append]
  repeat' (first | refine pa ?_ | (refine pb ?_ ?_ <;> intro hg) | refine po ?_ | fail)
  · exact ⟨(k + 1, _), by show k + 1 ≤ 4000; omega, by show 4000 - (k + 1) < 4000 - k; omega, by (exact ple)⟩
  · refine ⟨h, trivial, ?_⟩
    (show DoneM _ _ _ _ _ _ _; refine DoneM.intro (by first | exact .inr rfl | exact .inl rfl) (vs := [.ptr _ _ _ _]) rfl rfl rfl (by first | ((repeat' (first | exact trivial | refine And.intro ?_ ?_ | rfl)); done) | fail) rfl rfl (.inl ⟨rfl, rfl, rfl⟩))
  · refine ⟨h, trivial, ?_⟩
    (show DoneM _ _ _ _ _ _ _; refine DoneM.intro (by first | exact .inr rfl | exact .inl rfl) (vs := [.ptr _ _ _ _]) rfl rfl rfl (by first | ((repeat' (first | exact trivial | refine And.intro ?_ ?_ | rfl)); done) | fail) rfl rfl (.inl ⟨rfl, rfl, rfl⟩))
set_option maxRecDepth 20000 in
set_option maxHeartbeats 4000000 in
theorem a_s_l01Byte (xs : List Int) (hxl : xs.length ≤ 1048576) (i : Nat) (h : Int) : AMP Try.prog 134 [(0, 0, .box 144 [.t (.lst true 5 (codeE xs)), .t (.int .i64 i), .t (.int .i64 h)])] [.ptr 0 0 0 0] (α := Nat × Int × Int) (fun x => [(0, 0, .box 144 [.t (.lst true 5 (codeE xs)), .t (.int .i64 x.1), .t (.int .i64 x.2.1)])]) (fun x => .t (.int .i64 x.2.2)) (fun x => 0 ≤ x.2.2 ∧ x.2.2 ≤ 255) := by
  have hel : (codeE xs).length = xs.length := List.length_map _
  refine AMP.go Try.func134 Try.ntmps134 fun B W hr => ?_
  repeat' (first | refine pa ?_ | (refine pb ?_ ?_ <;> intro hg) | refine po ?_ | ((apply aW.drawq; (focus exact pos_); (focus exact Checked.mixed Try.checked); (focus rfl); (focus (refine aA.to (n' := 13) rfl rfl ?_; (refine pt0_ 0 ?_ <;> refine pt9_ 1 ?_ <;> refine pt15_ 2 ?_ <;> refine pt7_ 3 ?_ <;> refine pt10_ 4 ?_ <;> refine pt0_ 5 ?_ <;> refine pt9_ 6 ?_ <;> refine pt15_ 7 ?_ <;> refine pt7_ 8 ?_ <;> refine pt10_ 9 ?_ <;> refine pt10_ 10 ?_ <;> refine pt10_ 11 ?_ <;> refine pt1_ 12 ?_ <;> (refine pdone ?_; exact qf2c0)))))) | ((apply aW.drawq; (focus exact pos_); (focus exact Checked.mixed Try.checked); (focus rfl); (focus (refine aA.to (n' := 10) rfl rfl ?_; (refine pt0_ 0 ?_ <;> refine pt9_ 1 ?_ <;> refine pt15_ 2 ?_ <;> refine pt7_ 3 ?_ <;> refine pt0_ 4 ?_ <;> refine pt9_ 5 ?_ <;> refine pt15_ 6 ?_ <;> refine pt7_ 7 ?_ <;> refine pt20_ 8 ?_ <;> refine pt10_ 9 ?_ <;> (refine pdone ?_; exact qf2c0)))))) | ((apply aW.drawq; (focus exact pos_); (focus exact Checked.mixed Try.checked); (focus rfl); (focus (refine aA.to (n' := 15) rfl rfl ?_; (apply aA.cut (ls := lsN 15 4095) (n := 3); (focus (intro hd1; (refine pt0_ 0 ?_ <;> refine pt0_ 1 ?_ <;> refine pt9_ 2 ?_ <;> refine pt15_ 3 ?_ <;> refine pt7_ 4 ?_ <;> refine pt0_ 5 ?_ <;> refine pt9_ 6 ?_ <;> refine pt15_ 7 ?_ <;> refine pt7_ 8 ?_ <;> refine pt17_ 9 ?_ <;> refine pt7_ 10 ?_ <;> (refine pall [11] (And.intro ?_ trivial); (focus ((refine pop ?_; refine pk12 ?_) <;> ((try refine pnorm ?_); exact pto hd1))))))); (case main => (refine pt10_ 12 ?_ <;> refine pt10_ 13 ?_ <;> refine pt1_ 14 ?_ <;> (refine pdone ?_; exact qf2c0)))))))) | fail)
  · (show DoneP _ _ _ _ _ _ _ _; apply done3 (a := i + 1); (case dd => (dsimp only; (show DoneM _ _ _ _ _ _ _; refine qb0ba ?_; first | exact .inl ⟨rfl, rfl, rfl⟩ | refine .inr ⟨rfl, ?_, (by first | exact List.nodup_nil | simp [ids2, ids1, ids0]), rfl⟩); exact .inl rfl)); case pp => exact and_255r _)
  · (show DoneP _ _ _ _ _ _ _ _; apply done3 (a := i); (case dd => (dsimp only; (show DoneM _ _ _ _ _ _ _; refine qb0ba ?_; first | exact .inl ⟨rfl, rfl, rfl⟩ | refine .inr ⟨rfl, ?_, (by first | exact List.nodup_nil | simp [ids2, ids1, ids0]), rfl⟩); exact .inl rfl)); case pp => exact and_255r _)
theorem below_mod {a : Int} {n : Int} (h0 : 0 ≤ a) (h : 0 < n) : a.tmod n = ((a.toNat % n.toNat : Nat) : Int) := by
  rw [Int.tmod_eq_emod_of_nonneg h0]
  obtain ⟨k, rfl⟩ := Int.eq_ofNat_of_zero_le (show 0 ≤ n by omega)
  obtain ⟨m, rfl⟩ := Int.eq_ofNat_of_zero_le h0
  rfl
theorem below_lt {n : Int} (m : Nat) (h : 0 < n) : ((m % n.toNat : Nat) : Int) < n := by
  have := Nat.mod_lt m (show 0 < n.toNat by omega)
  omega
set_option maxRecDepth 20000 in
set_option maxHeartbeats 4000000 in
theorem a_s_l01Below (xs : List Int) (hxl : xs.length ≤ 1048576) (i : Nat) (h n : Int) (hn : 0 < n) : AMP Try.prog 81 [(0, 0, .box 144 [.t (.lst true 5 (codeE xs)), .t (.int .i64 i), .t (.int .i64 h)])] [.ptr 0 0 0 0, .t (.int .i64 n)] (α := Nat × Int × Nat) (fun x => [(0, 0, .box 144 [.t (.lst true 5 (codeE xs)), .t (.int .i64 x.1), .t (.int .i64 x.2.1)])]) (fun x => .t (.int .i64 (x.2.2 : Nat))) (fun x => (x.2.2 : Int) < n) := by
  refine AMP.go Try.func81 Try.ntmps81 fun B W hr => ?_
  repeat' (first | refine pa ?_ | (refine pb ?_ ?_ <;> intro hg) | (refine q4ed5 (n := 20) ?_; (first | (refine q608c (m := [(0, _, _)]) (a_s_l01Byte _ hxl _ _) (fun b hb => ?_); refine ⟨_, _, _, (by first | exact Imp3.ptr rfl (by first | exact ecfc rfl | exact ef62 rfl | exact rfl) | exact Imp3.hnd rfl (by first | exact ecfc rfl | exact ef62 rfl | exact rfl) | exact Imp3.imp rfl (by first | exact Imp2.other rfl rfl rfl | exact Imp2.fr (by first | exact ecfc rfl | exact ef62 rfl) | exact Imp2.agg (by first | ((repeat' (first | exact ImpL.nil | exact ImpT.nil | (apply ImpL.other; (focus exact rfl)) | (apply ImpL.fr; (focus exact (by first | exact ecfc rfl | exact ef62 rfl))) | (apply ImpT.other; (focus exact rfl); (focus exact rfl)) | apply ImpT.agg | (apply ImpT.fr; (focus exact (by first | exact ecfc rfl | exact ef62 rfl))))); done) | fail) | exact Imp2.tup (by first | ((repeat' (first | exact ImpL.nil | exact ImpT.nil | (apply ImpL.other; (focus exact rfl)) | (apply ImpL.fr; (focus exact (by first | exact ecfc rfl | exact ef62 rfl))) | (apply ImpT.other; (focus exact rfl); (focus exact rfl)) | apply ImpT.agg | (apply ImpT.fr; (focus exact (by first | exact ecfc rfl | exact ef62 rfl))))); done) | fail))), rfl, rfl, (by first | exact .inr rfl | exact .inl ⟨rfl, rfl⟩), rfl, rfl, (by first | ((repeat' (first | exact RenR.nil | exact RenL.nil | (apply RenR.row; (focus exact rfl); (focus exact (by first | exact ecfc rfl | exact ef62 rfl | exact rfl))) | (apply RenR.box; (focus exact rfl); (focus exact (by first | exact ecfc rfl | exact ef62 rfl | exact rfl))) | (apply RenR.gone; (focus exact rfl); (focus exact (by first | exact ecfc rfl | exact ef62 rfl | exact rfl))) | (apply RenL.hnd; (focus exact rfl); (focus exact (by first | exact ecfc rfl | exact ef62 rfl | exact rfl))) | (apply RenL.ptr; (focus exact rfl); (focus exact (by first | exact ecfc rfl | exact ef62 rfl | exact rfl))) | (apply RenL.view; (focus exact rfl); (focus exact (by first | exact ecfc rfl | exact ef62 rfl | exact rfl))) | (apply RenL.other; (focus exact rfl)))); done) | fail), ?_⟩))) | refine po ?_ | fail)
  all_goals (show DoneP _ _ _ _ _ _ _ _; apply done3; (case dd => (dsimp only; (show DoneM _ _ _ _ _ _ _; refine qb0ba ?_; first | exact .inl ⟨rfl, rfl, rfl⟩ | refine .inr ⟨rfl, ?_, (by first | exact List.nodup_nil | simp [ids2, ids1, ids0]), rfl⟩); exact .inl (congrArg (T.int .i64) (below_mod (by omega) hn)))); case pp => exact below_lt _ hn)
theorem getD_mem_ {α : Type} [Inhabited α] {xs : List α} {k : Nat} (h : k < xs.length) : xs.getD k default ∈ xs := by
  rw [getD_eq h]
  exact List.getElem_mem h
set_option maxRecDepth 20000 in
set_option maxHeartbeats 4000000 in
theorem a_s_l01PickInt (xs : List Int) (hxl : xs.length ≤ 1048576) (i : Nat) (h : Int) (ys : List Int) (hy : 0 < ys.length) : AMP Try.prog 189 [(0, 0, .box 144 [.t (.lst true 5 (codeE xs)), .t (.int .i64 i), .t (.int .i64 h)])] [.ptr 0 0 0 0, .t (ints 3 ys)] (α := Nat × Int × Int) (fun x => [(0, 0, .box 144 [.t (.lst true 5 (codeE xs)), .t (.int .i64 x.1), .t (.int .i64 x.2.1)])]) (fun x => .t (.int .i64 x.2.2)) (fun x => x.2.2 ∈ ys) := by
  refine AMP.go Try.func189 Try.ntmps189 fun B W hr => ?_
  repeat' (first | refine pa ?_ | (refine pb ?_ ?_ <;> intro hg) | (refine q4ed5 (n := 20) ?_; (first | (refine q608c (m := [(0, _, _)]) (a_s_l01Below _ hxl _ _ (ys.length : Int) (by omega)) (fun b hb => ?_); refine ⟨_, _, _, (by first | exact Imp3.ptr rfl (by first | exact ecfc rfl | exact ef62 rfl | exact rfl) | exact Imp3.hnd rfl (by first | exact ecfc rfl | exact ef62 rfl | exact rfl) | exact Imp3.imp rfl (by first | exact Imp2.other rfl rfl rfl | exact Imp2.fr (by first | exact ecfc rfl | exact ef62 rfl) | exact Imp2.agg (by first | ((repeat' (first | exact ImpL.nil | exact ImpT.nil | (apply ImpL.other; (focus exact rfl)) | (apply ImpL.fr; (focus exact (by first | exact ecfc rfl | exact ef62 rfl))) | (apply ImpT.other; (focus exact rfl); (focus exact rfl)) | apply ImpT.agg | (apply ImpT.fr; (focus exact (by first | exact ecfc rfl | exact ef62 rfl))))); done) | fail) | exact Imp2.tup (by first | ((repeat' (first | exact ImpL.nil | exact ImpT.nil | (apply ImpL.other; (focus exact rfl)) | (apply ImpL.fr; (focus exact (by first | exact ecfc rfl | exact ef62 rfl))) | (apply ImpT.other; (focus exact rfl); (focus exact rfl)) | apply ImpT.agg | (apply ImpT.fr; (focus exact (by first | exact ecfc rfl | exact ef62 rfl))))); done) | fail))), rfl, rfl, (by first | exact .inr rfl | exact .inl ⟨rfl, rfl⟩), rfl, rfl, (by first | ((repeat' (first | exact RenR.nil | exact RenL.nil | (apply RenR.row; (focus exact rfl); (focus exact (by first | exact ecfc rfl | exact ef62 rfl | exact rfl))) | (apply RenR.box; (focus exact rfl); (focus exact (by first | exact ecfc rfl | exact ef62 rfl | exact rfl))) | (apply RenR.gone; (focus exact rfl); (focus exact (by first | exact ecfc rfl | exact ef62 rfl | exact rfl))) | (apply RenL.hnd; (focus exact rfl); (focus exact (by first | exact ecfc rfl | exact ef62 rfl | exact rfl))) | (apply RenL.ptr; (focus exact rfl); (focus exact (by first | exact ecfc rfl | exact ef62 rfl | exact rfl))) | (apply RenL.view; (focus exact rfl); (focus exact (by first | exact ecfc rfl | exact ef62 rfl | exact rfl))) | (apply RenL.other; (focus exact rfl)))); done) | fail), ?_⟩))) | refine po ?_ | fail)
  all_goals (show DoneP _ _ _ _ _ _ _ _; apply done3; (case dd => (dsimp only; (show DoneM _ _ _ _ _ _ _; refine qb0ba ?_; first | exact .inl ⟨rfl, rfl, rfl⟩ | refine .inr ⟨rfl, ?_, (by first | exact List.nodup_nil | simp [ids2, ids1, ids0]), rfl⟩); exact .inl rfl)); case pp => exact getD_mem_ (by omega))
end Go.Proofs.Ytmkpgcahmbancaa
