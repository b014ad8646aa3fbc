/- What is proved: contracts on hunts, the program's.
   Conditions: none. -/
import Derived.Test.YthlpbojljpamlaaT9
namespace Go.Proofs.Ythlpbojljpamlaa
open Go.RowKit Ab
def agreeB (a b : List Int) (i : Int) : Bool := decide (0 ≤ i ∧ i < a.length ∧ i < b.length ∧ a.getD i.toNat default = b.getD i.toNat default)
def probe (l h : Int) : Int := if 0 ≤ l ∧ h ≤ 1000000 ∧ 2 ≤ h ∧ l ≤ h - 2 then (l + h) / 2 else -1
def narrowed (l h s : Int) (ag : Bool) : Int × Int × Int := if probe l h < 0 then (l, h, s) else if ag = true then (probe l h, h, if s < 1000000 then s + 1 else s) else (l, probe l h, if s < 1000000 then s + 1 else s)
/-- The lists are alike up to k and never again. -/
def Parted (a b : List Int) (n k : Nat) : Prop := a.length = n ∧ b.length = n ∧ 1 ≤ k ∧ k < n ∧ n ≤ 202 ∧ ∀ i, i < n → (a.getD i default = b.getD i default ↔ i < k)
def huntS (k : Int) : Nat → Int → Int → Int → Int
  | 0, _, _, s => s
  | f + 1, l, h, s => if l ≤ h - 2 then (if (l + h) / 2 < k then huntS k f ((l + h) / 2) h (s + 1) else huntS k f l ((l + h) / 2) (s + 1)) else s
end Go.Proofs.Ythlpbojljpamlaa
