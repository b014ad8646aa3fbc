/- What is proved: the closed facts on this seat's program that hang on the head of its text, without reading the head's long list to its end.
   Conditions: none. -/
import Derived.Test.YtmkpgcahmbancaaLaw
import Derived.Test.YtmkpgcahmbancaaRows
namespace Go.Proofs.Ytmkpgcahmbancaa
set_option linter.unusedSimpArgs false
set_option linter.unusedVariables false
open Go.RowKit

theorem wordsSigns_space (r : List Char) : wordsSigns (Char.ofNat 32 :: r) = [] :: wordsSigns r := rfl
theorem wordsSigns_word : ∀ (w r : List Char), (∀ c ∈ w, c ≠ Char.ofNat 32) → wordsSigns (w ++ Char.ofNat 32 :: r) = w :: wordsSigns r
  | [], r, _ => wordsSigns_space r
  | c :: w, r, h => by
    have hc : c ≠ Char.ofNat 32 := h c (by simp)
    have ih := wordsSigns_word w r (fun d hd => h d (by simp [hd]))
    rw [List.cons_append, wordsSigns.eq_3 c _ hc, ih]

def Try.w0 : List Char := ([104, 97, 114, 110, 101, 115, 115] : List Nat).map Char.ofNat
def Try.w1 : List Char := ([97, 52, 98, 52, 51, 98, 55, 49, 50, 56, 99, 101, 102, 53, 56, 53, 56, 53, 54, 98, 55, 51, 54, 100, 51, 97, 99, 49, 54, 101, 102, 48, 56, 100, 100, 55, 57, 50, 53, 56, 54, 54, 98, 101, 55, 101, 55, 48, 48, 101, 49, 57, 52, 49, 57, 50, 55, 52, 52, 55, 52, 54, 57, 48] : List Nat).map Char.ofNat
def Try.w2 : List Char := ([99, 117, 116] : List Nat).map Char.ofNat
def Try.w3 : List Char := ([97, 116, 32, 108, 111, 111, 112, 46, 101, 120, 97, 109, 112, 108, 101, 47, 103, 48, 51, 51, 49, 53, 47, 108, 97, 119, 115, 46, 70, 110, 69, 120, 97, 99, 116, 80, 101, 101, 114, 79, 107, 32, 108, 111, 111, 112, 46, 101, 120, 97, 109, 112, 108, 101, 47, 103, 48, 51, 51, 49, 53, 47, 108, 97, 119, 115, 46, 70, 110, 69, 120, 97, 99, 116, 67, 97, 110, 65, 100, 118, 97, 110, 99, 101, 32, 108, 111, 111, 112, 46, 101, 120, 97, 109, 112, 108, 101, 47, 103, 48, 51, 51, 49, 53, 47, 108, 97, 119, 115, 46, 70, 110, 69, 120, 97, 99, 116, 76, 101, 97, 100, 79, 102, 32, 108, 111, 111, 112, 46, 101, 120, 97, 109, 112, 108, 101, 47, 103, 48, 51, 51, 49, 53, 47, 108, 97, 119, 115, 46, 70, 110, 70, 97, 117, 108, 116, 115, 32, 108, 111, 111, 112, 46, 101, 120, 97, 109, 112, 108, 101, 47, 103, 48, 51, 51, 49, 53, 47, 108, 97, 119, 115, 46, 70, 110, 69, 120, 97, 99, 116, 70, 105, 114, 115, 116, 87, 114, 111, 110, 103, 32, 108, 111, 111, 112, 46, 101, 120, 97, 109, 112, 108, 101, 47, 103, 48, 51, 51, 49, 53, 47, 108, 97, 119, 115, 46, 70, 110, 69, 120, 97, 99, 116, 78, 101, 119, 80, 101, 101, 114, 32, 108, 111, 111, 112, 46, 101, 120, 97, 109, 112, 108, 101, 47, 103, 48, 51, 51, 49, 53, 47, 108, 97, 119, 115, 46, 70, 110, 69, 120, 97, 99, 116, 70, 97, 117, 108, 116, 121, 83, 116, 101, 112, 32, 108, 111, 111, 112, 46, 101, 120, 97, 109, 112, 108, 101, 47, 103, 48, 51, 51, 49, 53, 47, 108, 97, 119, 115, 46, 70, 110, 69, 120, 97, 99, 116, 80, 114, 101, 115, 115, 73, 110, 112, 117, 116, 32, 108, 111, 111, 112, 46, 101, 120, 97, 109, 112, 108, 101, 47, 103, 48, 51, 51, 49, 53, 47, 108, 97, 119, 115, 46, 70, 110, 69, 120, 97, 99, 116, 84, 101, 108, 108] : List Nat).map Char.ofNat
theorem Try.head : Try.prog.initOrder = String.ofList (Try.w0 ++ Char.ofNat 32 :: (Try.w1 ++ Char.ofNat 32 :: (Try.w2 ++ Char.ofNat 32 :: Try.w3))) := by kernel_rfl
theorem Try.w0_ok : ∀ c ∈ Try.w0, c ≠ Char.ofNat 32 := by decide +kernel
theorem Try.w1_ok : ∀ c ∈ Try.w1, c ≠ Char.ofNat 32 := by decide +kernel
theorem Try.w2_ok : ∀ c ∈ Try.w2, c ≠ Char.ofNat 32 := by decide +kernel
theorem Try.words : wordsSigns Try.prog.initOrder.toList = Try.w0 :: Try.w1 :: Try.w2 :: wordsSigns Try.w3 := by
  rw [Try.head, String.toList_ofList, wordsSigns_word _ _ Try.w0_ok, wordsSigns_word _ _ Try.w1_ok, wordsSigns_word _ _ Try.w2_ok]
theorem Try.behind (r : List (List Char)) : behindMainWord (Try.w0 :: Try.w1 :: Try.w2 :: r) = Try.w2 :: r := by kernel_rfl
theorem Try.strip (r : List (List Char)) : stripLifts liftWords (Try.w2 :: r) = ([], Try.w2 :: r) := by kernel_rfl
theorem Try.laysLater : Try.prog.laysLater = false := by kernel_rfl
theorem Try.bearsReflect : Try.prog.bearsReflect = false := by kernel_rfl
theorem Try.doorFits : Try.prog.doorFits [] = true := by kernel_rfl
theorem Try.is_gc : (Try.w2 == "gc".toList) = false := by decide +kernel
theorem Try.is_spec : (Try.w2 == "spec".toList) = false := by decide +kernel
theorem Try.is_cut : (Try.w2 == "cut".toList) = true := by decide +kernel
theorem Try.is_carried : (Try.w2 == "carried".toList) = false := by decide +kernel
theorem Try.some_cut : ((some Try.w2 : Option (List Char)) == some "cut".toList) = true := by decide +kernel
theorem mayEnter_of {P : Program} {a b c : List Char} {r : List (List Char)} (hw : wordsSigns P.initOrder.toList = a :: b :: c :: r) (hb : behindMainWord (a :: b :: c :: r) = c :: r) (hs : stripLifts liftWords (c :: r) = ([], c :: r))
    (h1 : P.laysLater = false) (h2 : P.bearsReflect = false) (h3 : P.doorFits [] = true) (g1 : (c == "gc".toList) = false) (g2 : (c == "spec".toList) = false) (g3 : (c == "carried".toList) = false) (g4 : ((some c : Option (List Char)) == some "cut".toList) = true) : P.mayEnter = true := by
  unfold Program.mayEnter
  rw [hw, hb]
  simp only [hs, h1, h2, h3, g1, g2, g3, g4, List.head?_cons, Bool.false_or, Bool.false_and, Bool.true_and, Bool.not_false, Bool.or_true, Bool.and_true, List.contains_nil]
theorem Try.mayEnter : Try.prog.mayEnter = true := mayEnter_of Try.words (Try.behind _) (Try.strip _) Try.laysLater Try.bearsReflect Try.doorFits Try.is_gc Try.is_spec Try.is_carried Try.some_cut
theorem make_of {P : Program} {a b c : List Char} {r : List (List Char)} (hw : wordsSigns P.initOrder.toList = a :: b :: c :: r) (hb : behindMainWord (a :: b :: c :: r) = c :: r)
    (g1 : (c == "gc".toList) = false) (g2 : (c == "spec".toList) = false) (g3 : (c == "cut".toList) = true) : P.make = some .cut := by
  unfold Program.make
  rw [hw, hb]
  simp only [g1, g2, g3, Bool.false_or, Bool.true_or, Bool.false_eq_true, if_false, if_true]
theorem Try.make : Try.prog.make = some .cut := make_of Try.words (Try.behind _) Try.is_gc Try.is_spec Try.is_cut
theorem Try.headLifts : Try.prog.headLifts = [] := by
  unfold Program.headLifts
  rw [Try.words, Try.behind, Try.strip]
  generalize wordsSigns Try.w3 = r
  kernel_rfl
theorem Try.liftsFinal : Try.prog.liftsFinal = false := by
  unfold Program.liftsFinal
  rw [Try.words, Try.behind, Try.headLifts]
  generalize wordsSigns Try.w3 = r
  kernel_rfl
theorem Try.own : ownKnob Try.prog.godebug = none := by kernel_rfl
theorem Try.laidOut : laidOutB Try.prog = true := by kernel_rfl
theorem lifted_of {P : Program} {b : Bool} (h : P.liftsFinal = b) : (b == P.liftsFinal) = true := by rw [h]; exact beq_self_eq_true b
theorem made_of {P : Program} {m : Make} (h : P.make = some m) : (P.make == some m) = true := by rw [h]; exact beq_self_eq_true _
end Go.Proofs.Ytmkpgcahmbancaa
