/- What is proved: contracts on wires in the calculus of abstract states, program and reference alike.
   Conditions: none. -/
import Derived.Test.YtkdcpdbgdijbnaaT4
namespace Go.Proofs.Ytkdcpdbgdijbnaa
open Go.RowKit Ab
abbrev F2 := Int × ByteArray × Unit
def flightC (p : F2) : List T := [.int .i64 p.1, .str p.2.1.data.toList]
theorem rdT_flights {P : Program} {e : TypeId} {xs : List F2} (h : RdT P (.lst true e (xs.map flightC))) : xs.length ≤ 9223372036854775807 ∧ ∀ k, k < xs.length → (xs.getD k default).2.1.data.toList.length ≤ 9223372036854775807 := by
  obtain ⟨h1, h2, h3⟩ := rdT_lst h
  refine ⟨by simpa using h1, fun k hk => ?_⟩
  have hu : ∀ x ∈ xs.map flightC, x.length = 2 := fun x hx => by obtain ⟨p, _, rfl⟩ := List.mem_map.1 hx; rfl
  have h4 := flatten_at hu (i := k) (j := 1) (by simpa using hk) (by omega)
  rw [getD_map hk] at h4
  exact rdT_str (h3 _ _ h4)
def szGo : List F2 → Int → Int
  | [], l => l
  | f :: r, l => if l - f.2.1.data.toList.length < 0 then -1 else szGo r (l - f.2.1.data.toList.length)
def szFl (xs : List F2) : Int := if 1048576 - (xs.length : Int) < 0 then -1 else szGo xs (1048576 - xs.length)
end Go.Proofs.Ytkdcpdbgdijbnaa
namespace Go.Proofs.Ytkdcpdbgdijbnaa
open Go.RowKit Ab
def flightOk (f : F2) : Bool := inR f.1 0 1100000 && inR f.2.1.data.toList.length 1 20000
def wireOk (se d j lo c dm now sent lost : Int) (fs : List F2) : Bool :=
  inR se 0 65535 && inR d 0 12 && inR j 0 12 && inR lo 0 100 && inR c 0 100 && inR dm 0 100 && inR now 0 1000000 && inR sent 0 1000000 && inR lost 0 1000000 && decide (fs.length ≤ 200) && fs.all flightOk
end Go.Proofs.Ytkdcpdbgdijbnaa
