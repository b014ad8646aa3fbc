/- What is proved: the closed facts on this seat's program that hang on the head of its text, without reading the head's long list to its end.
   Conditions: none. -/
import Derived.Test.YthlpbojljpamlaaLaw
import Derived.Test.YthlpbojljpamlaaRows
namespace Go.Proofs.Ythlpbojljpamlaa
open Go.RowKit

theorem wordsSigns_space (r : List Char) : wordsSigns (Char.ofNat 32 :: r) = [] :: wordsSigns r := rfl
theorem wordsSigns_word : ∀ (w r : List Char), (∀ c ∈ w, c ≠ Char.ofNat 32) → wordsSigns (w ++ Char.ofNat 32 :: r) = w :: wordsSigns r
  | [], r, _ => wordsSigns_space r
  | c :: w, r, h => by
    have hc : c ≠ Char.ofNat 32 := h c (by simp)
    have ih := wordsSigns_word w r (fun d hd => h d (by simp [hd]))
    rw [List.cons_append, wordsSigns.eq_3 c _ hc, ih]

def Try.w0 : List Char := ([104, 97, 114, 110, 101, 115, 115] : List Nat).map Char.ofNat
def Try.w1 : List Char := ([101, 52, 98, 48, 50, 98, 99, 55, 57, 52, 56, 53, 50, 101, 101, 56, 53, 97, 54, 54, 102, 48, 48, 100, 54, 57, 56, 98, 54, 100, 50, 98, 56, 57, 51, 51, 56, 102, 102, 51, 100, 50, 49, 54, 100, 50, 101, 49, 49, 101, 48, 51, 55, 53, 52, 55, 50, 52, 52, 54, 56, 52, 54, 57] : List Nat).map Char.ofNat
def Try.w2 : List Char := ([99, 117, 116] : List Nat).map Char.ofNat
def Try.w3 : List Char := ([97, 116, 32, 108, 111, 111, 112, 46, 101, 120, 97, 109, 112, 108, 101, 47, 103, 48, 51, 51, 49, 53, 47, 108, 97, 119, 115, 46, 70, 110, 72, 117, 110, 116, 101, 100, 32, 108, 111, 111, 112, 46, 101, 120, 97, 109, 112, 108, 101, 47, 103, 48, 51, 51, 49, 53, 47, 108, 97, 119, 115, 46, 70, 110, 80, 97, 99, 101, 115, 32, 108, 111, 111, 112, 46, 101, 120, 97, 109, 112, 108, 101, 47, 103, 48, 51, 51, 49, 53, 47, 108, 97, 119, 115, 46, 70, 110, 83, 99, 114, 105, 112, 116, 115, 32, 108, 111, 111, 112, 46, 101, 120, 97, 109, 112, 108, 101, 47, 103, 48, 51, 51, 49, 53, 47, 108, 97, 119, 115, 46, 70, 110, 80, 114, 101, 100, 105, 99, 116, 101, 100, 32, 108, 111, 111, 112, 46, 101, 120, 97, 109, 112, 108, 101, 47, 103, 48, 51, 51, 49, 53, 47, 108, 97, 119, 115, 46, 70, 110, 69, 120, 97, 99, 116, 78, 101, 119, 87, 105, 114, 101, 32, 108, 111, 111, 112, 46, 101, 120, 97, 109, 112, 108, 101, 47, 103, 48, 51, 51, 49, 53, 47, 108, 97, 119, 115, 46, 70, 110, 69, 120, 97, 99, 116, 87, 105, 114, 101, 81, 117, 105, 101, 116, 32, 108, 111, 111, 112, 46, 101, 120, 97, 109, 112, 108, 101, 47, 103, 48, 51, 51, 49, 53, 47, 108, 97, 119, 115, 46, 70, 110, 84, 111, 108, 100, 32, 108, 111, 111, 112, 46, 101, 120, 97, 109, 112, 108, 101, 47, 103, 48, 51, 51, 49, 53, 47, 108, 97, 119, 115, 46, 70, 110, 69, 120, 97, 99, 116, 85, 110, 112, 97, 99, 107, 84, 114, 97, 99, 107, 32, 108, 111, 111, 112, 46, 101, 120, 97, 109, 112, 108, 101, 47, 103, 48, 51, 51, 49, 53, 47, 108, 97, 119, 115, 46, 70, 110, 84, 114, 97, 99, 107, 66, 121, 116, 101, 115, 32, 108, 111, 111, 112, 46, 101, 120, 97, 109, 112, 108, 101, 47, 103, 48, 51, 51, 49, 53, 47, 108, 97, 119, 115, 46, 70, 110, 69, 120, 97, 99, 116, 84, 105, 99, 107, 87, 105, 114, 101, 32, 108, 111, 111, 112, 46, 101, 120, 97, 109, 112, 108, 101, 47, 103, 48, 51, 51, 49, 53, 47, 108, 97, 119, 115, 46, 70, 110, 69, 120, 97, 99, 116, 77, 97, 107, 101, 80, 97, 99, 107, 101, 116, 32, 108, 111, 111, 112, 46, 101, 120, 97, 109, 112, 108, 101, 47, 103, 48, 51, 51, 49, 53, 47, 108, 97, 119, 115, 46, 70, 110, 69, 120, 97, 99, 116, 69, 110, 99, 111, 100, 101, 80, 97, 99, 107, 101, 116, 32, 108, 111, 111, 112, 46, 101, 120, 97, 109, 112, 108, 101, 47, 103, 48, 51, 51, 49, 53, 47, 108, 97, 119, 115, 46, 70, 110, 87, 105, 114, 101, 115, 67, 111, 117, 110, 116, 32, 108, 111, 111, 112, 46, 101, 120, 97, 109, 112, 108, 101, 47, 103, 48, 51, 51, 49, 53, 47, 108, 97, 119, 115, 46, 70, 110, 69, 120, 97, 99, 116, 83, 101, 110, 100, 87, 105, 114, 101, 32, 108, 111, 111, 112, 46, 101, 120, 97, 109, 112, 108, 101, 47, 103, 48, 51, 51, 49, 53, 47, 108, 97, 119, 115, 46, 70, 110, 80, 97, 99, 107, 101, 116, 66, 121, 116, 101, 115, 32, 108, 111, 111, 112, 46, 101, 120, 97, 109, 112, 108, 101, 47, 103, 48, 51, 51, 49, 53, 47, 108, 97, 119, 115, 46, 70, 110, 87, 105, 114, 101, 115, 87, 104, 111, 108, 101, 32, 108, 111, 111, 112, 46, 101, 120, 97, 109, 112, 108, 101, 47, 103, 48, 51, 51, 49, 53, 47, 108, 97, 119, 115, 46, 70, 110, 69, 120, 97, 99, 116, 68, 101, 99, 111, 100, 101, 80, 97, 99, 107, 101, 116, 32, 108, 111, 111, 112, 46, 101, 120, 97, 109, 112, 108, 101, 47, 103, 48, 51, 51, 49, 53, 47, 108, 97, 119, 115, 46, 70, 110, 69, 120, 97, 99, 116, 65, 114, 114, 105, 118, 101, 87, 105, 114, 101] : List Nat).map Char.ofNat
theorem Try.head : Try.prog.initOrder = String.ofList (Try.w0 ++ Char.ofNat 32 :: (Try.w1 ++ Char.ofNat 32 :: (Try.w2 ++ Char.ofNat 32 :: Try.w3))) := by kernel_rfl
theorem Try.w0_ok : ∀ c ∈ Try.w0, c ≠ Char.ofNat 32 := by decide +kernel
theorem Try.w1_ok : ∀ c ∈ Try.w1, c ≠ Char.ofNat 32 := by decide +kernel
theorem Try.w2_ok : ∀ c ∈ Try.w2, c ≠ Char.ofNat 32 := by decide +kernel
theorem Try.words : wordsSigns Try.prog.initOrder.toList = Try.w0 :: Try.w1 :: Try.w2 :: wordsSigns Try.w3 := by
  rw [Try.head, String.toList_ofList, wordsSigns_word _ _ Try.w0_ok, wordsSigns_word _ _ Try.w1_ok, wordsSigns_word _ _ Try.w2_ok]
theorem Try.behind (r : List (List Char)) : behindMainWord (Try.w0 :: Try.w1 :: Try.w2 :: r) = Try.w2 :: r := by kernel_rfl
theorem Try.strip (r : List (List Char)) : stripLifts liftWords (Try.w2 :: r) = ([], Try.w2 :: r) := by kernel_rfl
theorem Try.laysLater : Try.prog.laysLater = false := by kernel_rfl
theorem Try.bearsReflect : Try.prog.bearsReflect = false := by kernel_rfl
theorem Try.doorFits : Try.prog.doorFits [] = true := by kernel_rfl
theorem Try.is_gc : (Try.w2 == "gc".toList) = false := by decide +kernel
theorem Try.is_spec : (Try.w2 == "spec".toList) = false := by decide +kernel
theorem Try.is_cut : (Try.w2 == "cut".toList) = true := by decide +kernel
theorem Try.is_carried : (Try.w2 == "carried".toList) = false := by decide +kernel
theorem Try.some_cut : ((some Try.w2 : Option (List Char)) == some "cut".toList) = true := by decide +kernel
theorem mayEnter_of {P : Program} {a b c : List Char} {r : List (List Char)} (hw : wordsSigns P.initOrder.toList = a :: b :: c :: r) (hb : behindMainWord (a :: b :: c :: r) = c :: r) (hs : stripLifts liftWords (c :: r) = ([], c :: r))
    (h1 : P.laysLater = false) (h2 : P.bearsReflect = false) (h3 : P.doorFits [] = true) (g1 : (c == "gc".toList) = false) (g2 : (c == "spec".toList) = false) (g3 : (c == "carried".toList) = false) (g4 : ((some c : Option (List Char)) == some "cut".toList) = true) : P.mayEnter = true := by
  unfold Program.mayEnter
  rw [hw, hb]
  simp only [hs, h1, h2, h3, g1, g2, g3, g4, List.head?_cons, Bool.false_or, Bool.false_and, Bool.true_and, Bool.not_false, Bool.or_true, Bool.and_true, List.contains_nil]
theorem Try.mayEnter : Try.prog.mayEnter = true := mayEnter_of Try.words (Try.behind _) (Try.strip _) Try.laysLater Try.bearsReflect Try.doorFits Try.is_gc Try.is_spec Try.is_carried Try.some_cut
theorem make_of {P : Program} {a b c : List Char} {r : List (List Char)} (hw : wordsSigns P.initOrder.toList = a :: b :: c :: r) (hb : behindMainWord (a :: b :: c :: r) = c :: r)
    (g1 : (c == "gc".toList) = false) (g2 : (c == "spec".toList) = false) (g3 : (c == "cut".toList) = true) : P.make = some .cut := by
  unfold Program.make
  rw [hw, hb]
  simp only [g1, g2, g3, Bool.false_or, Bool.true_or, Bool.false_eq_true, if_false, if_true]
theorem Try.make : Try.prog.make = some .cut := make_of Try.words (Try.behind _) Try.is_gc Try.is_spec Try.is_cut
theorem Try.headLifts : Try.prog.headLifts = [] := by
  unfold Program.headLifts
  rw [Try.words, Try.behind, Try.strip]
  generalize wordsSigns Try.w3 = r
  kernel_rfl
theorem Try.liftsFinal : Try.prog.liftsFinal = false := by
  unfold Program.liftsFinal
  rw [Try.words, Try.behind, Try.headLifts]
  generalize wordsSigns Try.w3 = r
  kernel_rfl
theorem Try.own : ownKnob Try.prog.godebug = none := by kernel_rfl
theorem Try.laidOut : laidOutB Try.prog = true := by kernel_rfl
theorem lifted_of {P : Program} {b : Bool} (h : P.liftsFinal = b) : (b == P.liftsFinal) = true := by rw [h]; exact beq_self_eq_true b
theorem made_of {P : Program} {m : Make} (h : P.make = some m) : (P.make == some m) = true := by rw [h]; exact beq_self_eq_true _
end Go.Proofs.Ythlpbojljpamlaa
