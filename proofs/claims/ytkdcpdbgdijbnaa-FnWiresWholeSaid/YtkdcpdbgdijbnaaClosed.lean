/- What is proved: the closed facts on this seat's program that hang on the head of its text, without reading the head's long list to its end.
   Conditions: none. -/
import Derived.Test.YtkdcpdbgdijbnaaLaw
import Derived.Test.YtkdcpdbgdijbnaaRows
namespace Go.Proofs.Ytkdcpdbgdijbnaa
open Go.RowKit

def Try.w0 : List Char := ([104, 97, 114, 110, 101, 115, 115] : List Nat).map Char.ofNat
def Try.w1 : List Char := ([98, 54, 56, 51, 99, 51, 99, 52, 54, 49, 48, 51, 101, 52, 55, 49, 48, 51, 100, 51, 54, 50, 101, 50, 100, 51, 54, 51, 102, 57, 52, 99, 48, 54, 57, 54, 48, 49, 100, 102, 55, 55, 48, 50, 101, 55, 98, 50, 100, 101, 99, 99, 53, 99, 53, 54, 56, 100, 52, 53, 51, 56, 53, 48] : List Nat).map Char.ofNat
def Try.w2 : List Char := ([99, 117, 116] : List Nat).map Char.ofNat
def Try.w3 : List Char := ([97, 116, 32, 108, 111, 111, 112, 46, 101, 120, 97, 109, 112, 108, 101, 47, 103, 48, 51, 51, 49, 53, 47, 108, 97, 119, 115, 46, 70, 110, 87, 105, 114, 101, 115, 67, 111, 117, 110, 116, 32, 108, 111, 111, 112, 46, 101, 120, 97, 109, 112, 108, 101, 47, 103, 48, 51, 51, 49, 53, 47, 108, 97, 119, 115, 46, 70, 110, 87, 105, 114, 101, 115, 87, 104, 111, 108, 101, 32, 108, 111, 111, 112, 46, 101, 120, 97, 109, 112, 108, 101, 47, 103, 48, 51, 51, 49, 53, 47, 108, 97, 119, 115, 46, 70, 110, 69, 120, 97, 99, 116, 65, 114, 114, 105, 118, 101, 87, 105, 114, 101] : List Nat).map Char.ofNat
theorem Try.own : ownKnob Try.prog.godebug = none := by kernel_rfl
theorem Try.laidOut : laidOutB Try.prog = true := by kernel_rfl
end Go.Proofs.Ytkdcpdbgdijbnaa
