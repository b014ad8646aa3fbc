/- What is proved: contracts on what a peer may do: advance, how far ahead it is, what it predicted wrongly.
   Conditions: all its lists are of a length that can be walked. -/
import Derived.Test.YtmkpgcahmbancaaT67
import Derived.Test.YtmkpgcahmbancaaT67s
namespace Go.Proofs.Ytmkpgcahmbancaa
open Go.RowKit Ab
noncomputable def canAdvance (p : Pr) : Bool := peerOk p && decide ((p.used.length : Int) < p.ahead) && decide (p.now.tick < ((p.tracks.getD p.me.toNat default).length : Int))
noncomputable def leadOf (p : Pr) : Int := if peerOk p = true then p.now.tick - p.base.tick else -1
/-- The first row from k on that was used and is another one now. -/
def wrongGo (ts : TS) (b : Int) (us : TS) : Nat → Nat → Int
  | 0, _ => -1
  | n + 1, k => if (rowV ts (b + k)).1 = us.getD k default then wrongGo ts b us n (k + 1) else b + k
noncomputable def firstWrong (p : Pr) : Int := if peerOk p = true then wrongGo p.tracks p.base.tick p.used p.used.length 0 else -1
end Go.Proofs.Ytmkpgcahmbancaa
