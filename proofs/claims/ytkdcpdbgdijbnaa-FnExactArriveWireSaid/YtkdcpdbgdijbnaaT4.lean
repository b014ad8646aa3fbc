/- What is proved: contracts on paces in the calculus of abstract states, program and reference alike.
   Conditions: none. -/
import Derived.Test.YtkdcpdbgdijbnaaLaw
import Derived.Test.YtkdcpdbgdijbnaaRows
import Derived.BigQuiet
import Derived.Deep.QuietTactic
import Derived.OpenShut
import Derived.Test.YtkdcpdbgdijbnaaAbsE
import Derived.Test.YtkdcpdbgdijbnaaAbsC
import Derived.Test.YtkdcpdbgdijbnaaAbsQ
import Derived.Test.YtkdcpdbgdijbnaaAbsD
namespace Go.Proofs.Ytkdcpdbgdijbnaa
open Go.RowKit

def inR (n lo hi : Int) : Bool := decide (lo ≤ n) && decide (n ≤ hi)
/-! ### Faults -/
def faultOk (t p a n : Int) : Bool := decide (0 ≤ t ∧ t ≤ 400 ∧ 0 ≤ p ∧ p < n ∧ 0 ≤ a ∧ a ≤ 9)


/-! ### Hunts -/
def probeOf (l h : Int) : Int := if 0 ≤ l ∧ h ≤ 1000000 ∧ 2 ≤ h ∧ l ≤ h - 2 then (l + h) / 2 else -1


/-! ### Paces -/
def paceOk (a b c d e : Int) : Bool := decide ((0 ≤ a ∧ a ≤ 1000001) ∧ (0 ≤ b ∧ b ≤ 1000001) ∧ (0 ≤ c ∧ c ≤ 1000001) ∧ (0 ≤ d ∧ d ≤ 1000001) ∧ (0 ≤ e ∧ e ≤ 1000001))
def guessTick (a b c d e now : Int) : Int := if paceOk a b c d e = true ∧ a ≠ 0 ∧ c ≤ now ∧ now ≤ 1000000 then b + now - c + d / 2 else 0
def advantageOf (a b c d e tick now : Int) : Int := if paceOk a b c d e = true ∧ a ≠ 0 ∧ c ≤ now ∧ now ≤ 1000000 ∧ 0 ≤ tick ∧ tick ≤ 400 then tick - guessTick a b c d e now else 0


end Go.Proofs.Ytkdcpdbgdijbnaa
namespace Go.Proofs.Ytkdcpdbgdijbnaa
open Go.RowKit

/-! ### Random numbers -/
def nextRandom (s : Int) : Int := if 0 ≤ s ∧ s ≤ 65535 then (s * 25173 + 13849) % 65536 else 0
def randomBelow (s n : Int) : Int × Int := if 0 ≤ s ∧ s ≤ 65535 ∧ 1 ≤ n ∧ n ≤ 4096 then (nextRandom s, nextRandom s / 16 % n) else (0, 0)
def chance (s p : Int) : Int × Bool := ((randomBelow s 100).1, decide ((randomBelow s 100).2 < p))
end Go.Proofs.Ytkdcpdbgdijbnaa
namespace Go.Proofs.Ytkdcpdbgdijbnaa
open Go.RowKit Ab
set_option maxRecDepth 20000 in
set_option maxHeartbeats 4000000 in
theorem a_i_between (n lo hi : Int) : AC Try.prog 28 [.t (.int .i64 n), .t (.int .i64 lo), .t (.int .i64 hi)] (.t (.bool (inR n lo hi))) := by
  refine AC.body Try.func28 rfl (by decide) rfl Try.ntmps28 (Nat.le_of_ble_eq_true rfl) fun B W hr => ?_
  repeat' (first | (first | refine aW.seq ?_ | refine aW.region ?_ | refine aW.ret ?_ | refine aW.skip ?_ | refine aW.block ?_ | refine aW.exit ?_ | refine q530b ?_ | refine q9fa3 ?_ | refine q163f (fun hg => ?_) (fun hg => ?_) | refine qa44e (fun hg => ?_) (fun hg => ?_)) | (first | refine q11db ?_ | refine qa9c6 ?_ | refine q4ea8 ?_ | refine qae47 ?_ | refine q69f7 ?_ | refine q55dd ?_ | refine q225e (fun hg => ?_) (fun hg => ?_) | refine qe1ad (fun hg => ?_) (fun hg => ?_)) | (first
    | (refine q4ed5 (n := 0) ?_; (first | refine q608d ?_))
    | (refine q4ed5 (n := 10) ?_; (first | refine q3e25 ?_ | refine q5079 ?_))
    | (refine q4ed5 (n := 1) ?_; (first | refine q9d68 ?_))
    | (refine q4ed5 (n := 2) ?_; (first | refine qace2 ?_ | refine q34f8 ?_))) | fail)
  all_goals (show Done _ _ _ _ _; refine q1058 ?_)
  all_goals exact .inl (congrArg T.bool (by simp [inR, *]))
def inputsOkL (xs : List Int) : Bool := xs.all fun n => inR n 0 15
end Go.Proofs.Ytkdcpdbgdijbnaa
namespace Go.Proofs.Ytkdcpdbgdijbnaa
open Go.RowKit Ab
set_option maxRecDepth 20000 in
set_option maxHeartbeats 4000000 in
theorem a_s_l01In (n lo hi : Int) : AC Try.prog 47 [.t (.int .i64 n), .t (.int .i64 lo), .t (.int .i64 hi)] (.t (.bool (inR n lo hi))) := by
  refine AC.body Try.func47 rfl (by decide) rfl Try.ntmps47 (Nat.le_of_ble_eq_true rfl) fun B W hr => ?_
  repeat' (first | (first | refine aW.seq ?_ | refine aW.region ?_ | refine aW.ret ?_ | refine aW.skip ?_ | refine aW.block ?_ | refine aW.exit ?_ | refine q530b ?_ | refine q9fa3 ?_ | refine q163f (fun hg => ?_) (fun hg => ?_) | refine qa44e (fun hg => ?_) (fun hg => ?_)) | (first | refine q11db ?_ | refine qa9c6 ?_ | refine q4ea8 ?_ | refine qae47 ?_ | refine q69f7 ?_ | refine q55dd ?_ | refine q225e (fun hg => ?_) (fun hg => ?_) | refine qe1ad (fun hg => ?_) (fun hg => ?_)) | (first
    | (refine q4ed5 (n := 0) ?_; (first | refine q608d ?_))
    | (refine q4ed5 (n := 10) ?_; (first | refine q3e25 ?_ | refine q5079 ?_))
    | (refine q4ed5 (n := 1) ?_; (first | refine q9d68 ?_))
    | (refine q4ed5 (n := 2) ?_; (first | refine qace2 ?_ | refine q34f8 ?_))) | fail)
  all_goals (show Done _ _ _ _ _; refine q1058 ?_)
  all_goals exact .inl (congrArg T.bool (by simp [inR, *]))
def pairR (x : Int × Int) : V := .tup [.t (.int .i64 x.1), .t (.int .i64 x.2)]
end Go.Proofs.Ytkdcpdbgdijbnaa
namespace Go.Proofs.Ytkdcpdbgdijbnaa
open Go.RowKit

end Go.Proofs.Ytkdcpdbgdijbnaa
namespace Go.Proofs.Ytkdcpdbgdijbnaa
open Go.RowKit Ab

/-! ### Lists that a loop fills -/
structure MapInv {α : Type} [Inhabited α] (f : α → List T) (m : Nat) (xs : List α) (els : List (List T)) (k : Nat) : Prop where
  le : k ≤ xs.length
  len : els.length = xs.length
  uni : ∀ x ∈ els, x.length = m
  done : els.take k = (xs.take k).map f
section
variable {α : Type} [Inhabited α] {f : α → List T} {m : Nat} {xs : List α} {els : List (List T)} {k : Nat}
theorem MapInv.init {z : List T} (hz : z.length = m) : MapInv f m xs (List.replicate xs.length z) 0 :=
  ⟨Nat.zero_le _, by simp, fun x hx => by rw [List.eq_of_mem_replicate hx, hz], by simp⟩
theorem MapInv.step (h : MapInv f m xs els k) (hk : k < xs.length) {c : List T} (hc : c = f (xs.getD k default)) (hm : c.length = m) : MapInv f m xs (els.set k (setRange (els.getD k []) 0 c)) (k + 1) := by
  have hke : k < els.length := by rw [h.len]; exact hk
  have hs : setRange (els.getD k []) 0 c = c := by
    have h1 : (els.getD k []).length = m := h.uni _ (getD_mem hke)
    unfold setRange
    rw [List.take_zero, List.nil_append, List.drop_of_length_le (by omega), List.append_nil]
  rw [hs]
  refine ⟨hk, by rw [List.length_set, h.len], fun x hx => ?_, ?_⟩
  · rcases List.mem_or_eq_of_mem_set hx with hx | rfl
    · exact h.uni x hx
    · exact hm
  · rw [List.take_succ_eq_append_getElem hk, List.map_append, ← h.done, List.take_succ_eq_append_getElem (by rw [List.length_set]; exact hke), List.take_set_of_le (Nat.le_refl _)]
    simp [hc, hk]
theorem MapInv.all (h : MapInv f m xs els xs.length) : els = xs.map f := by
  have := h.done
  rwa [← h.len, List.take_length, h.len, List.take_length] at this
end

abbrev P5 := Int × Int × Int × Int × Int × Unit
def paceC (p : P5) : List T := [.int .i64 p.1, .int .i64 p.2.1, .int .i64 p.2.2.1, .int .i64 p.2.2.2.1, .int .i64 p.2.2.2.2.1]
end Go.Proofs.Ytkdcpdbgdijbnaa
