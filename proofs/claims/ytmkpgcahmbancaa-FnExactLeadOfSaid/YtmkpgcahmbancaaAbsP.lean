/- What is proved: nothing but equations said again: they force a value into a form.
   Conditions: none. -/
import Derived.Test.YtmkpgcahmbancaaAbs6
namespace Go.Proofs.Ytmkpgcahmbancaa.Ab
set_option linter.unusedSimpArgs false
set_option linter.unusedVariables false
open Go.RowKit
theorem ecfc {v  : Nat} (h : v = 0) : v = 0 := h
theorem e91e {v : _} {x1 : _} {x2 : _} {x3 : _} {x4 : _} {x5 : _} {x6 : _} {x7 : _} {x8 : _} {x9 : _} {x10 : _} {x11 : _} {x12 : _} {x13 : _} {x14 : _} {x15 : _} {x16 : _} {x17 : _} {x18 : _} {x19 : _} {x20 : _} {x21 : _} {x22 : _} {x23 : _} (h : v = V.agg [x1, x2, x3, x4, x5, x6, x7, x8, x9, x10, x11, x12, x13, x14, x15, x16, x17, x18, x19, x20, x21, x22, x23]) : v = V.agg [x1, x2, x3, x4, x5, x6, x7, x8, x9, x10, x11, x12, x13, x14, x15, x16, x17, x18, x19, x20, x21, x22, x23] := h
theorem e055 {v : _} {x1 : _} {x2 : _} {x3 : _} {x4 : _} {x5 : _} {x6 : _} {x7 : _} {x8 : _} {x9 : _} {x10 : _} (h : v = V.agg [x1, x2, x3, x4, x5, x6, x7, x8, x9, x10]) : v = V.agg [x1, x2, x3, x4, x5, x6, x7, x8, x9, x10] := h
theorem eeb8 {v : _} {x1 : _} {x2 : _} {x3 : _} {x4 : _} {x5 : _} {x6 : _} {x7 : _} {x8 : _} {x9 : _} (h : v = V.agg [x1, x2, x3, x4, x5, x6, x7, x8, x9]) : v = V.agg [x1, x2, x3, x4, x5, x6, x7, x8, x9] := h
theorem e318 {v : _} {x1 : _} {x2 : _} {x3 : _} {x4 : _} {x5 : _} (h : v = V.agg [x1, x2, x3, x4, x5]) : v = V.agg [x1, x2, x3, x4, x5] := h
theorem e32b {v : _} {x1 : _} {x2 : _} {x3 : _} (h : v = V.agg [x1, x2, x3]) : v = V.agg [x1, x2, x3] := h
theorem eae2 {v : _} {x1 : _} {x2 : _} (h : v = V.agg [x1, x2]) : v = V.agg [x1, x2] := h
theorem e228 {v : _} {x1 : _} (h : v = V.agg [x1]) : v = V.agg [x1] := h
theorem e855 {v : _} {x1 : _} (h : v = V.agg x1) : v = V.agg x1 := h
theorem ed24 {v : _} {x1 : _} {x2 : _} (h : v = V.hnd x1 x2) : v = V.hnd x1 x2 := h
theorem e9a0 {v : _} {x1 : _} (h : v = V.lit x1) : v = V.lit x1 := h
theorem e639 {v : _} {x1 : _} {x2 : _} {x3 : _} {x4 : _} (h : v = V.ptr x1 x2 x3 x4) : v = V.ptr x1 x2 x3 x4 := h
theorem eafb {v : _} {x1 : _} {x2 : _} (h : v = V.rptr x1 x2) : v = V.rptr x1 x2 := h
theorem e6fb {v : _} {x1 : _} (h : v = V.t x1) : v = V.t x1 := h
theorem e5cc {v : _} {x1 : _} (h : v = V.tup x1) : v = V.tup x1 := h
theorem e1d4 {v : _} {x1 : _} {x2 : _} {x3 : _} {x4 : _} (h : v = V.view x1 x2 x3 x4) : v = V.view x1 x2 x3 x4 := h
theorem ec6f {v : List (Nat × Nat × Ob)} {x1 x2 x3 x4 x5 x6 : Nat} (h : v = [(x1, x2, Ob.gone), (x3, x4, Ob.gone), (x5, x6, Ob.gone)]) : v = [(x1, x2, Ob.gone), (x3, x4, Ob.gone), (x5, x6, Ob.gone)] := h
theorem ec50 {v : List (Nat × Nat × Ob)} {x1 x2 x3 x4 : Nat} (h : v = [(x1, x2, Ob.gone), (x3, x4, Ob.gone)]) : v = [(x1, x2, Ob.gone), (x3, x4, Ob.gone)] := h
theorem e444 {v : List (Nat × Nat × Ob)} {x1 x2 : Nat} (h : v = [(x1, x2, Ob.gone)]) : v = [(x1, x2, Ob.gone)] := h
theorem ed75 {α : Type} {v : List α}  (h : v = []) : v = [] := h
theorem e10f {α : Type} {v : List α} {x1 x2 x3 x4 x5 x6 x7 x8 x9 x10 x11 x12 x13 x14 x15 x16 x17 x18 x19 x20 x21 x22 x23 : α} (h : v = [x1, x2, x3, x4, x5, x6, x7, x8, x9, x10, x11, x12, x13, x14, x15, x16, x17, x18, x19, x20, x21, x22, x23]) : v = [x1, x2, x3, x4, x5, x6, x7, x8, x9, x10, x11, x12, x13, x14, x15, x16, x17, x18, x19, x20, x21, x22, x23] := h
theorem e1d0 {α : Type} {v : List α} {x1 x2 x3 x4 x5 x6 x7 x8 x9 x10 : α} (h : v = [x1, x2, x3, x4, x5, x6, x7, x8, x9, x10]) : v = [x1, x2, x3, x4, x5, x6, x7, x8, x9, x10] := h
theorem ec55 {α : Type} {v : List α} {x1 x2 x3 x4 x5 x6 x7 x8 x9 : α} (h : v = [x1, x2, x3, x4, x5, x6, x7, x8, x9]) : v = [x1, x2, x3, x4, x5, x6, x7, x8, x9] := h
theorem e21e {α : Type} {v : List α} {x1 x2 x3 x4 x5 : α} (h : v = [x1, x2, x3, x4, x5]) : v = [x1, x2, x3, x4, x5] := h
theorem eee1 {α : Type} {v : List α} {x1 x2 x3 : α} (h : v = [x1, x2, x3]) : v = [x1, x2, x3] := h
theorem ecef {α : Type} {v : List α} {x1 x2 : α} (h : v = [x1, x2]) : v = [x1, x2] := h
theorem e679 {α : Type} {v : List α} {x1 : α} (h : v = [x1]) : v = [x1] := h
theorem ef62 {v x1 : Nat} (h : v = x1 + 1) : v = x1 + 1 := h
theorem e689 {v : _}  (h : v = false) : v = false := h
theorem e334 {α : Type} {v : Option α}  (h : v = none) : v = none := h
theorem ed07 {v : _} {x1 : _} {x2 : _} {x3 : _} {x4 : _} {x5 : _} {x6 : _} {x7 : _} {x8 : _} {x9 : _} {x10 : _} {x11 : _} {x12 : _} {x13 : _} {x14 : _} {x15 : _} {x16 : _} {x17 : _} {x18 : _} {x19 : _} {x20 : _} {x21 : _} {x22 : _} {x23 : _} (h : v = some (V.agg [x1, x2, x3, x4, x5, x6, x7, x8, x9, x10, x11, x12, x13, x14, x15, x16, x17, x18, x19, x20, x21, x22, x23])) : v = some (V.agg [x1, x2, x3, x4, x5, x6, x7, x8, x9, x10, x11, x12, x13, x14, x15, x16, x17, x18, x19, x20, x21, x22, x23]) := h
theorem e979 {v : _} {x1 : _} {x2 : _} {x3 : _} {x4 : _} {x5 : _} {x6 : _} {x7 : _} {x8 : _} {x9 : _} {x10 : _} (h : v = some (V.agg [x1, x2, x3, x4, x5, x6, x7, x8, x9, x10])) : v = some (V.agg [x1, x2, x3, x4, x5, x6, x7, x8, x9, x10]) := h
theorem e53e {v : _} {x1 : _} {x2 : _} {x3 : _} {x4 : _} {x5 : _} {x6 : _} {x7 : _} {x8 : _} {x9 : _} (h : v = some (V.agg [x1, x2, x3, x4, x5, x6, x7, x8, x9])) : v = some (V.agg [x1, x2, x3, x4, x5, x6, x7, x8, x9]) := h
theorem e303 {v : _} {x1 : _} {x2 : _} {x3 : _} {x4 : _} {x5 : _} (h : v = some (V.agg [x1, x2, x3, x4, x5])) : v = some (V.agg [x1, x2, x3, x4, x5]) := h
theorem eded {v : _} {x1 : _} {x2 : _} {x3 : _} (h : v = some (V.agg [x1, x2, x3])) : v = some (V.agg [x1, x2, x3]) := h
theorem ee1c {v : _} {x1 : _} {x2 : _} (h : v = some (V.agg [x1, x2])) : v = some (V.agg [x1, x2]) := h
theorem eb40 {v : _} {x1 : _} (h : v = some (V.agg [x1])) : v = some (V.agg [x1]) := h
theorem e18d {v : _} {x1 : _} {x2 : _} (h : v = some (V.hnd x1 x2)) : v = some (V.hnd x1 x2) := h
theorem e9ec {v : _} {x1 : _} (h : v = some (V.t x1)) : v = some (V.t x1) := h
theorem e71e {v : _} {x1 : _} {x2 : _} {x3 : _} {x4 : _} {x5 : _} {x6 : _} {x7 : _} {x8 : _} {x9 : _} {x10 : _} {x11 : _} {x12 : _} {x13 : _} {x14 : _} {x15 : _} {x16 : _} {x17 : _} {x18 : _} {x19 : _} {x20 : _} {x21 : _} {x22 : _} {x23 : _} {x24 : _} {x25 : _} (h : v = some [V.agg [x1, x2, x3, x4, x5, x6, x7, x8, x9, x10, x11, x12, x13, x14, x15, x16, x17, x18, x19, x20, x21, x22, x23], V.hnd x24 x25]) : v = some [V.agg [x1, x2, x3, x4, x5, x6, x7, x8, x9, x10, x11, x12, x13, x14, x15, x16, x17, x18, x19, x20, x21, x22, x23], V.hnd x24 x25] := h
theorem e281 {v : _} {x1 : _} {x2 : _} {x3 : _} {x4 : _} {x5 : _} {x6 : _} {x7 : _} {x8 : _} {x9 : _} {x10 : _} {x11 : _} {x12 : _} {x13 : _} {x14 : _} {x15 : _} {x16 : _} {x17 : _} {x18 : _} {x19 : _} {x20 : _} {x21 : _} {x22 : _} {x23 : _} {x24 : _} (h : v = some [V.agg [x1, x2, x3, x4, x5, x6, x7, x8, x9, x10, x11, x12, x13, x14, x15, x16, x17, x18, x19, x20, x21, x22, x23], V.t x24]) : v = some [V.agg [x1, x2, x3, x4, x5, x6, x7, x8, x9, x10, x11, x12, x13, x14, x15, x16, x17, x18, x19, x20, x21, x22, x23], V.t x24] := h
theorem e197 {v : _} {x1 : _} {x2 : _} {x3 : _} {x4 : _} {x5 : _} {x6 : _} {x7 : _} {x8 : _} {x9 : _} {x10 : _} {x11 : _} {x12 : _} {x13 : _} {x14 : _} {x15 : _} {x16 : _} {x17 : _} {x18 : _} {x19 : _} {x20 : _} {x21 : _} {x22 : _} {x23 : _} (h : v = some [V.agg [x1, x2, x3, x4, x5, x6, x7, x8, x9, x10, x11, x12, x13, x14, x15, x16, x17, x18, x19, x20, x21, x22, x23]]) : v = some [V.agg [x1, x2, x3, x4, x5, x6, x7, x8, x9, x10, x11, x12, x13, x14, x15, x16, x17, x18, x19, x20, x21, x22, x23]] := h
theorem e88c {v : _} {x1 : _} {x2 : _} {x3 : _} {x4 : _} {x5 : _} {x6 : _} {x7 : _} {x8 : _} {x9 : _} {x10 : _} {x11 : _} {x12 : _} (h : v = some [V.agg [x1, x2, x3, x4, x5, x6, x7, x8, x9, x10], V.hnd x11 x12]) : v = some [V.agg [x1, x2, x3, x4, x5, x6, x7, x8, x9, x10], V.hnd x11 x12] := h
theorem e8c0 {v : _} {x1 : _} {x2 : _} {x3 : _} {x4 : _} {x5 : _} {x6 : _} {x7 : _} {x8 : _} {x9 : _} {x10 : _} {x11 : _} (h : v = some [V.agg [x1, x2, x3, x4, x5, x6, x7, x8, x9, x10], V.t x11]) : v = some [V.agg [x1, x2, x3, x4, x5, x6, x7, x8, x9, x10], V.t x11] := h
theorem e6e1 {v : _} {x1 : _} {x2 : _} {x3 : _} {x4 : _} {x5 : _} {x6 : _} {x7 : _} {x8 : _} {x9 : _} {x10 : _} (h : v = some [V.agg [x1, x2, x3, x4, x5, x6, x7, x8, x9, x10]]) : v = some [V.agg [x1, x2, x3, x4, x5, x6, x7, x8, x9, x10]] := h
theorem e2ea {v : _} {x1 : _} {x2 : _} {x3 : _} {x4 : _} {x5 : _} {x6 : _} {x7 : _} {x8 : _} {x9 : _} {x10 : _} {x11 : _} (h : v = some [V.agg [x1, x2, x3, x4, x5, x6, x7, x8, x9], V.hnd x10 x11]) : v = some [V.agg [x1, x2, x3, x4, x5, x6, x7, x8, x9], V.hnd x10 x11] := h
theorem e8d1 {v : _} {x1 : _} {x2 : _} {x3 : _} {x4 : _} {x5 : _} {x6 : _} {x7 : _} {x8 : _} {x9 : _} {x10 : _} (h : v = some [V.agg [x1, x2, x3, x4, x5, x6, x7, x8, x9], V.t x10]) : v = some [V.agg [x1, x2, x3, x4, x5, x6, x7, x8, x9], V.t x10] := h
theorem e47f {v : _} {x1 : _} {x2 : _} {x3 : _} {x4 : _} {x5 : _} {x6 : _} {x7 : _} {x8 : _} {x9 : _} (h : v = some [V.agg [x1, x2, x3, x4, x5, x6, x7, x8, x9]]) : v = some [V.agg [x1, x2, x3, x4, x5, x6, x7, x8, x9]] := h
theorem e652 {v : _} {x1 : _} {x2 : _} {x3 : _} {x4 : _} {x5 : _} {x6 : _} {x7 : _} (h : v = some [V.agg [x1, x2, x3, x4, x5], V.hnd x6 x7]) : v = some [V.agg [x1, x2, x3, x4, x5], V.hnd x6 x7] := h
theorem ef34 {v : _} {x1 : _} {x2 : _} {x3 : _} {x4 : _} {x5 : _} {x6 : _} (h : v = some [V.agg [x1, x2, x3, x4, x5], V.t x6]) : v = some [V.agg [x1, x2, x3, x4, x5], V.t x6] := h
theorem e3cb {v : _} {x1 : _} {x2 : _} {x3 : _} {x4 : _} {x5 : _} (h : v = some [V.agg [x1, x2, x3, x4, x5]]) : v = some [V.agg [x1, x2, x3, x4, x5]] := h
theorem e3c7 {v : _} {x1 : _} {x2 : _} {x3 : _} {x4 : _} {x5 : _} (h : v = some [V.agg [x1, x2, x3], V.hnd x4 x5]) : v = some [V.agg [x1, x2, x3], V.hnd x4 x5] := h
theorem e9fe {v : _} {x1 : _} {x2 : _} {x3 : _} {x4 : _} (h : v = some [V.agg [x1, x2, x3], V.t x4]) : v = some [V.agg [x1, x2, x3], V.t x4] := h
theorem e345 {v : _} {x1 : _} {x2 : _} {x3 : _} (h : v = some [V.agg [x1, x2, x3]]) : v = some [V.agg [x1, x2, x3]] := h
theorem e57e {v : _} {x1 : _} {x2 : _} {x3 : _} {x4 : _} (h : v = some [V.agg [x1, x2], V.hnd x3 x4]) : v = some [V.agg [x1, x2], V.hnd x3 x4] := h
theorem edc6 {v : _} {x1 : _} {x2 : _} {x3 : _} (h : v = some [V.agg [x1, x2], V.t x3]) : v = some [V.agg [x1, x2], V.t x3] := h
theorem eb2d {v : _} {x1 : _} {x2 : _} (h : v = some [V.agg [x1, x2]]) : v = some [V.agg [x1, x2]] := h
theorem ee92 {v : _} {x1 : _} {x2 : _} {x3 : _} (h : v = some [V.agg [x1], V.hnd x2 x3]) : v = some [V.agg [x1], V.hnd x2 x3] := h
theorem ec8f {v : _} {x1 : _} {x2 : _} (h : v = some [V.agg [x1], V.t x2]) : v = some [V.agg [x1], V.t x2] := h
theorem ea12 {v : _} {x1 : _} (h : v = some [V.agg [x1]]) : v = some [V.agg [x1]] := h
theorem eda9 {v : _} {x1 : _} {x2 : _} {x3 : _} (h : v = some [V.agg x1, V.hnd x2 x3]) : v = some [V.agg x1, V.hnd x2 x3] := h
theorem ee6d {v : _} {x1 : _} {x2 : _} (h : v = some [V.agg x1, V.t x2]) : v = some [V.agg x1, V.t x2] := h
theorem e6f6 {v : _} {x1 : _} (h : v = some [V.agg x1]) : v = some [V.agg x1] := h
theorem e495 {v : _} {x1 : _} {x2 : _} {x3 : _} {x4 : _} (h : v = some [V.hnd x1 x2, V.t x3, V.t x4]) : v = some [V.hnd x1 x2, V.t x3, V.t x4] := h
theorem e993 {v : _} {x1 : _} {x2 : _} {x3 : _} (h : v = some [V.hnd x1 x2, V.t x3]) : v = some [V.hnd x1 x2, V.t x3] := h
theorem e0f9 {v : _} {x1 : _} {x2 : _} (h : v = some [V.hnd x1 x2]) : v = some [V.hnd x1 x2] := h
theorem eeea {v : _} {x1 : _} {x2 : _} {x3 : _} (h : v = some [V.t x1, V.hnd x2 x3]) : v = some [V.t x1, V.hnd x2 x3] := h
theorem eac2 {v : _} {x1 : _} {x2 : _} {x3 : _} (h : v = some [V.t x1, V.t x2, V.t x3]) : v = some [V.t x1, V.t x2, V.t x3] := h
theorem ed21 {v : _} {x1 : _} {x2 : _} (h : v = some [V.t x1, V.t x2]) : v = some [V.t x1, V.t x2] := h
theorem ec8e {v : _} {x1 : _} (h : v = some [V.t x1]) : v = some [V.t x1] := h
theorem efaf {α : Type} {v : Option (List α)} {x1 x2 x3 x4 x5 x6 x7 x8 x9 : α} (h : v = some [x1, x2, x3, x4, x5, x6, x7, x8, x9]) : v = some [x1, x2, x3, x4, x5, x6, x7, x8, x9] := h
theorem ea92 {α : Type} {v : Option (List α)} {x1 x2 x3 x4 x5 : α} (h : v = some [x1, x2, x3, x4, x5]) : v = some [x1, x2, x3, x4, x5] := h
theorem ecd8 {α : Type} {v : Option (List α)} {x1 x2 x3 x4 : α} (h : v = some [x1, x2, x3, x4]) : v = some [x1, x2, x3, x4] := h
theorem ef7c {α : Type} {v : Option (List α)} {x1 x2 x3 : α} (h : v = some [x1, x2, x3]) : v = some [x1, x2, x3] := h
theorem e97d {α : Type} {v : Option (List α)} {x1 x2 : α} (h : v = some [x1, x2]) : v = some [x1, x2] := h
theorem e5c4 {α : Type} {v : Option (List α)} {x1 : α} (h : v = some [x1]) : v = some [x1] := h
theorem e1b4 {α : Type} {v : Option α} {x1 : α} (h : v = some x1) : v = some x1 := h
theorem eb32 {v : _}  (h : v = true) : v = true := h
end Go.Proofs.Ytmkpgcahmbancaa.Ab
