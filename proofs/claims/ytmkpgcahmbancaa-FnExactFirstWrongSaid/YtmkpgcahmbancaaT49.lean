/- What is proved: contracts on lists of strings in the calculus of abstract states: the statements' own functions.
   Conditions: none. -/
import Derived.Test.YtmkpgcahmbancaaT9
namespace Go.Proofs.Ytmkpgcahmbancaa
set_option linter.unusedSimpArgs false
set_option linter.unusedVariables false
open Go.RowKit Ab
abbrev F2 := Int × ByteArray × Unit
def flightC (p : F2) : List T := [.int .i64 p.1, .str p.2.1.data.toList]
def szGo : List F2 → Int → Int
  | [], l => l
  | f :: r, l => if l - f.2.1.data.toList.length < 0 then -1 else szGo r (l - f.2.1.data.toList.length)
theorem drop_at {α : Type} [Inhabited α] {xs : List α} {k : Nat} (hk : k < xs.length) : xs.drop k = xs.getD k default :: xs.drop (k + 1) := by
  rw [List.drop_eq_getElem_cons hk]; simp [hk]
def szFl (xs : List F2) : Int := if 1048576 - (xs.length : Int) < 0 then -1 else szGo xs (1048576 - xs.length)
end Go.Proofs.Ytmkpgcahmbancaa
namespace Go.Proofs.Ytmkpgcahmbancaa
set_option linter.unusedSimpArgs false
set_option linter.unusedVariables false
open Go.RowKit Ab
def flightOk (f : F2) : Bool := inR f.1 0 1100000 && inR f.2.1.data.toList.length 1 20000
def wireOk (se d j lo c dm now sent lost : Int) (fs : List F2) : Bool :=
  inR se 0 65535 && inR d 0 12 && inR j 0 12 && inR lo 0 100 && inR c 0 100 && inR dm 0 100 && inR now 0 1000000 && inR sent 0 1000000 && inR lost 0 1000000 && decide (fs.length ≤ 200) && fs.all flightOk
end Go.Proofs.Ytmkpgcahmbancaa
namespace Go.Proofs.Ytmkpgcahmbancaa
set_option linter.unusedSimpArgs false
set_option linter.unusedVariables false
open Go.RowKit Ab
def digE (k : Int) : List (List T) := [[T.int .u8 (IntKind.u8.wrap (48 + k.tmod 10))]]
def mdig : Nat → Int → List UInt8 → List UInt8
  | 0, _, o => o
  | f + 1, k, o => if 0 < k then mdig f (k / 10) ((digE k).map Ab.byteOf ++ o) else o
def markT (k : Int) : List UInt8 := if k ≤ 0 then [109, 48] else [109] ++ mdig 20 k []
set_option maxRecDepth 20000 in
set_option maxHeartbeats 4000000 in
theorem a_l_markText (k : Int) : AC Try.prog 162 [.t (.int .i64 k)] (.t (.str (markT k))) := by
  refine AC.go Try.func162 Try.ntmps162 fun B W hr => ?_
  obtain ⟨us, hus⟩ := hr
  have hk := rdT_int (rdT_arg hus (i := 0) rfl)
  clear hus
  by_cases h0 : k ≤ 0
  · repeat' (first | refine pa ?_ | (refine pb ?_ ?_ <;> intro hg) | refine po ?_ | fail)
    refine pfin ?_
    exact .inl (congrArg T.str (by simp [markT, h0]))
  · repeat' (first | refine pa ?_ | (refine pb ?_ ?_ <;> intro hg) | refine po ?_ | fail)
    refine aW.loopF rfl (fun q : Nat × Int × List UInt8 => [(3, .t (.str q.2.2)), (0, .t (.int .i64 q.2.1))]) [] (fun q : Nat × Int × List UInt8 => []) [] (fun q : Nat × Int × List UInt8 => 0 ≤ q.2.1 ∧ q.2.1 < 10 ^ q.1 ∧ q.2.2.length + q.1 ≤ 20 ∧ mdig q.1 q.2.1 q.2.2 = mdig 20 k []) (fun q : Nat × Int × List UInt8 => q.1) (20, k, []) ⟨by show 0 ≤ k; omega, by show k < 10 ^ 20; omega, by simp, rfl⟩ (by (exact plei)) ?_
    rintro ⟨f, v, o⟩ hI
    obtain ⟨h1, h2, h3, h4⟩ : 0 ≤ v ∧ v < 10 ^ f ∧ o.length + f ≤ 20 ∧ mdig f v o = mdig 20 k [] := hI
    have ht : v.tmod 10 = v % 10 := Int.tmod_eq_emod_of_nonneg h1
    have hb : ∀ x ∈ ([[T.int .u8 (IntKind.u8.wrap (48 + v.tmod 10))]] : List (List T)), Ab.isByte x = true := by intro x hx; simp at hx; subst hx; rfl
    have hl1 : (([[T.int .u8 (IntKind.u8.wrap (48 + v.tmod 10))]] : List (List T)).map Ab.byteOf).length + o.length ≤ maxLen := by
      show 1 + o.length ≤ 9223372036854775807
      omega
    have hl2 : ([109] : List UInt8).length + o.length ≤ maxLen := by
      show 1 + o.length ≤ 9223372036854775807
      omega
    dsimp only [List.cons_append, List.nil_append]
    by_cases hv : 0 < v
    · repeat' (first | refine pa ?_ | (refine pb ?_ ?_ <;> intro hg) | refine po ?_ | fail)
      cases f with
      | zero => simp at h2; omega
      | succ f =>
        refine ⟨(f, v / 10, _), ⟨by show 0 ≤ v / 10; omega, by show v / 10 < 10 ^ f; rw [Int.pow_succ] at h2; exact Int.ediv_lt_of_lt_mul (by omega) h2, by show ((digE v).map Ab.byteOf ++ o).length + f ≤ 20; simp [digE]; omega, ?_⟩, by show f < f + 1; omega, by (exact ple)⟩
        show mdig f (v / 10) ((digE v).map Ab.byteOf ++ o) = _
        rw [← h4, mdig, if_pos hv]
    · repeat' (first | refine pa ?_ | (refine pb ?_ ?_ <;> intro hg) | refine po ?_ | fail)
      refine pfin ?_
      have hm : mdig f v o = o := by cases f <;> simp [mdig, hv]
      exact .inl (congrArg T.str (by rw [markT, if_neg h0, ← h4, hm]; rfl))
def flE (k : Int) : F2 := (k, ⟨(markT (k + 1)).toArray⟩, ())
def iotaF (k : Int) (n : Nat) : List F2 := (List.range n).map fun i : Nat => flE (k + 2 * (i : Int))
theorem set_two {es : List (List T)} {i : Nat} {a b : T} (hi : i < es.length) (hu : ∀ x ∈ es, x.length = 2) :
    (es.set i (setRange (es.getD i []) 0 [a])).set i (setRange ((es.set i (setRange (es.getD i []) 0 [a])).getD i []) 1 [b]) = es.set i [a, b] := by
  have h1 : (es.getD i []).length = 2 := hu _ (getD_mem hi)
  have h2 : (es.set i (setRange (es.getD i []) 0 [a])).getD i [] = setRange (es.getD i []) 0 [a] := by
    simp [List.getD_eq_getElem?_getD, hi]
  rw [h2, List.set_set]
  obtain ⟨x, y, hxy⟩ : ∃ x y, es.getD i [] = [x, y] := by
    cases h : es.getD i [] with
    | nil => rw [h] at h1; simp at h1
    | cons x r => cases r with
      | nil => rw [h] at h1; simp at h1
      | cons y r => cases r with
        | nil => exact ⟨x, y, rfl⟩
        | cons => rw [h] at h1; simp at h1
  rw [hxy]
  rfl
end Go.Proofs.Ytmkpgcahmbancaa
namespace Go.Proofs.Ytmkpgcahmbancaa
set_option linter.unusedSimpArgs false
set_option linter.unusedVariables false
open Go.RowKit Ab
theorem T49d1 {X Y : Prop} (h : Y) (r : Hld Y → X := by intro h; (apply aW.drawq; (focus exact pos_); (focus exact Checked.mixed Try.checked); (focus rfl); (focus (refine aA.to (n' := 9) rfl rfl ?_; (refine pt0_ 0 ?_ <;> refine pt0_ 1 ?_ <;> refine pt17_ 2 ?_ <;> refine pt7_ 3 ?_ <;> refine pt0_ 4 ?_ <;> refine pt0_ 5 ?_ <;> refine pt17_ 6 ?_ <;> refine pt7_ 7 ?_ <;> refine pt10_ 8 ?_ <;> (refine pdone ?_; exact qf2c0))))); exact h.out) : X := r ⟨h⟩
theorem T49d2 {X Y : Prop} (h : Y) (r : Hld Y → X := by intro h; (apply aW.drawq; (focus exact pos_); (focus exact Checked.mixed Try.checked); (focus rfl); (focus (refine aA.to (n' := 7) rfl rfl ?_; (apply aA.cut (ls := lsN 7 63) (n := 1); (focus (intro hd1; (refine pt0_ 0 ?_ <;> refine pt0_ 1 ?_ <;> refine pt17_ 2 ?_ <;> refine pt7_ 3 ?_ <;> refine pt0_ 4 ?_ <;> (refine pall [5] (And.intro ?_ trivial); (focus ((refine pop ?_; (refine q4ed5 (n := 20) ?_; (first | fail))) <;> ((try refine pnorm ?_); exact pto hd1))))))); (case main => (refine pt10_ 6 ?_ <;> (refine pdone ?_; exact qf2c0))))))); exact h.out) : X := r ⟨h⟩
def strC (s : List UInt8) : List T := [.str s]
def strsE (l : List (List UInt8)) : List (List T) := l.map strC
theorem strsE_len (l : List (List UInt8)) : (strsE l).length = l.length := List.length_map _
theorem rdT_strs {P : Program} {e : TypeId} {xs : List (List UInt8)} (h : RdT P (.lst true e (strsE xs))) : xs.length ≤ 9223372036854775807 ∧ ∀ k, k < xs.length → (xs.getD k default).length ≤ 9223372036854775807 := by
  obtain ⟨h1, h2, h3⟩ := rdT_lst h
  refine ⟨by simpa [strsE] using h1, fun k hk => ?_⟩
  have hu : ∀ x ∈ xs.map strC, x.length = 1 := fun x hx => by obtain ⟨p, _, rfl⟩ := List.mem_map.1 hx; rfl
  have h4 := flatten_at hu (i := k) (j := 0) (by simpa using hk) (by omega)
  rw [getD_map hk] at h4
  exact rdT_str (h3 _ _ h4)
def szGoS : List (List UInt8) → Int → Int
  | [], l => l
  | f :: r, l => if l - f.length < 0 then -1 else szGoS r (l - f.length)
def szS (xs : List (List UInt8)) (l : Int) : Int := if l - (xs.length : Int) < 0 then -1 else szGoS xs (l - xs.length)
theorem szGoS_le : ∀ {xs : List (List UInt8)} {l : Int}, szGoS xs l ≤ l ∨ szGoS xs l < 0
  | [], l => .inl (Int.le_refl _)
  | f :: r, l => by
    unfold szGoS
    split
    · exact .inr (by omega)
    · rcases szGoS_le (xs := r) (l := l - f.length) with h | h
      · exact .inl (by omega)
      · exact .inr h
theorem szS_len {xs : List (List UInt8)} {l : Int} (h : ¬ szS xs l < 0) : (xs.length : Int) ≤ l ∧ szS xs l ≤ l - xs.length := by
  unfold szS at h ⊢
  split at h
  · omega
  · rename_i hl
    rw [if_neg hl]
    rcases szGoS_le (xs := xs) (l := l - xs.length) with h1 | h1
    · omega
    · omega
set_option maxRecDepth 20000 in
set_option maxHeartbeats 4000000 in
theorem a_l_szStringS (xs : List (List UInt8)) (l : Int) (hl : 0 ≤ l) : AC Try.prog 93 [.t (.lst true 9 (strsE xs)), .t (.int .i64 l)] (.t (.int .i64 (szS xs l))) := by
  refine AC.go Try.func93 Try.ntmps93 fun B W hr => ?_
  obtain ⟨us, hus⟩ := hr
  obtain ⟨h1, h2⟩ := rdT_strs (rdT_arg hus (i := 0) rfl)
  have h3 := rdT_int (rdT_arg hus (i := 1) rfl)
  clear hus
  repeat' (first | refine pa ?_ | (refine pb ?_ ?_ <;> intro hg) | refine po ?_ | fail)
  · refine pfin ?_
    exact .inl (congrArg (T.int .i64) (by rw [szS, if_pos (by omega)]))
  · have hs : szS xs l = szGoS xs (l - xs.length) := by rw [szS, if_neg (by omega)]
    rw [hs]
    refine aW.loopF rfl (fun q : Nat × Int => [(5, .t (.int .i64 q.1)), (1, .t (.int .i64 q.2))]) [(0, _)] (fun q : Nat × Int => []) [] (fun q : Nat × Int => q.1 ≤ xs.length ∧ 0 ≤ q.2 ∧ q.2 ≤ l ∧ szGoS (xs.drop q.1) q.2 = szGoS xs (l - xs.length)) (fun q : Nat × Int => xs.length - q.1) (0, _) ⟨Nat.zero_le _, by show 0 ≤ l - (xs.length : Int); omega, by show l - (xs.length : Int) ≤ l; omega, rfl⟩ (by (exact plei)) ?_
    rintro ⟨k, v⟩ hI
    obtain ⟨hk, hl0, hl1, hgo⟩ : k ≤ xs.length ∧ 0 ≤ v ∧ v ≤ l ∧ szGoS (xs.drop k) v = szGoS xs (l - xs.length) := hI
    dsimp only [List.cons_append, List.nil_append]
    by_cases hkn : k < xs.length
    · rw [drop_at hkn] at hgo
      have h4 := h2 k hkn
      by_cases hc : v - (xs.getD k default).length < 0
      · repeat' (first | refine pa ?_ | (refine pb ?_ ?_ <;> intro hg) | refine po ?_ | fail)
        refine pfin ?_
        exact .inl (congrArg (T.int .i64) (by rw [← hgo, szGoS, if_pos hc]))
      · repeat' (first | refine pa ?_ | (refine pb ?_ ?_ <;> intro hg) | refine po ?_ | fail)
        exact ⟨(k + 1, v - (xs.getD k default).length), ⟨hkn, by show 0 ≤ v - _; omega, by show v - _ ≤ l; omega, by rw [szGoS, if_neg hc] at hgo; exact hgo⟩, by show xs.length - (k + 1) < xs.length - k; omega, by (exact ple)⟩
    · repeat' (first | refine pa ?_ | (refine pb ?_ ?_ <;> intro hg) | refine po ?_ | fail)
      refine pfin ?_
      have : xs.drop k = [] := List.drop_of_length_le (by omega)
      rw [this] at hgo
      exact .inl (congrArg (T.int .i64) hgo)
set_option maxRecDepth 20000 in
set_option maxHeartbeats 4000000 in
theorem a_l_toStringS (xs : List (List UInt8)) (hx : xs.length ≤ 1048576) : AC Try.prog 95 [.t (.lst true 9 (strsE xs))] (.fr true 9 (strsE xs)) := by
  have hxl := strsE_len xs
  refine AC.go Try.func95 Try.ntmps95 fun B W hr => ?_
  repeat' (first | refine pa ?_ | (refine pb ?_ ?_ <;> intro hg) | refine po ?_ | fail)
  refine aW.loopF rfl (fun q : Nat × List (List T) => [(4, .t (.int .i64 q.1)), (3, .hnd 7 1)]) [(0, _)] (fun q : Nat × List (List T) => [(7, 1, .row true true 9 q.2)]) [] (fun q : Nat × List (List T) => MapInv strC 1 xs q.2 q.1) (fun q : Nat × List (List T) => xs.length - q.1) (0, _) (MapInv.init (z := [.str .nil]) rfl) (by (exact plei)) ?_
  rintro ⟨k, els⟩ hI
  have hI : MapInv strC 1 xs els k := hI
  obtain ⟨hI1, hI2⟩ : k ≤ xs.length ∧ els.length = xs.length := ⟨hI.le, hI.len⟩
  dsimp only [List.cons_append, List.nil_append]
  repeat' (first | refine pa ?_ | (refine pb ?_ ?_ <;> intro hg) | refine po ?_ | fail)
  · exact ⟨(k + 1, _), hI.step (by omega) rfl rfl, by show xs.length - (k + 1) < xs.length - k; omega, by (exact ple)⟩
  · have hk : k = xs.length := by omega
    subst hk
    have he := hI.all
    subst he
    refine pfin ?_
    exact rfl
set_option maxRecDepth 20000 in
set_option maxHeartbeats 4000000 in
theorem a_l_eqStringS (xs : List (List UInt8)) : AC Try.prog 99 [.t (.lst true 9 (strsE xs)), .t (.lst true 9 (strsE xs))] (.t (.bool true)) := by
  refine AC.go Try.func99 Try.ntmps99 fun B W hr => ?_
  obtain ⟨us, hus⟩ := hr
  obtain ⟨hl, _⟩ := rdT_strs (rdT_arg hus (i := 0) rfl)
  clear hus
  repeat' (first | refine pa ?_ | (refine pb ?_ ?_ <;> intro hg) | refine po ?_ | (refine T49d1 ?_) | fail)
  refine aW.loopF rfl (fun q : Nat => [(5, .t (.int .i64 q))]) [(1, _), (0, _)] (fun q : Nat => []) [] (fun q : Nat => q ≤ xs.length) (fun q : Nat => xs.length - q) 0 (Nat.zero_le _) (by (exact plei)) ?_
  intro k hk
  dsimp only [List.cons_append, List.nil_append]
  repeat' (first | refine pa ?_ | (refine pb ?_ ?_ <;> intro hg) | refine po ?_ | (refine T49d1 ?_) | fail)
  · exact ⟨k + 1, by omega, by omega, by (exact ple)⟩
  · refine pfin ?_
    exact .inl rfl
/-- The marks of a list of strings. -/
def iotaS (k : Int) (n : Nat) : List (List UInt8) := (List.range n).map fun i : Nat => markT (k + (i : Int))
theorem iotaS_len (k : Int) (n : Nat) : (iotaS k n).length = n := by simp [iotaS]
theorem iotaS_getD {k : Int} {n i : Nat} (h : i < n) : (iotaS k n).getD i default = markT (k + i) := by
  simp [iotaS, h]
set_option maxRecDepth 20000 in
set_option maxHeartbeats 4000000 in
theorem a_l_markStringS (els : List (List T)) (n : Nat) (k : Int) (hn : els.length = n) (hu : ∀ x ∈ els, x.length = 1) (h0 : 0 ≤ k) (h1 : k + n ≤ 1152921504606846976) : AM Try.prog 100 [(0, 0, .row true true 9 els)] [.hnd 0 0, .t (.int .i64 k)] [(0, 0, .row true true 9 (strsE (iotaS k n)))] (.t (.int .i64 (k+n))) := by
  have hl := iotaS_len k n
  refine AM.go Try.func100 Try.ntmps100 fun B W hr => ?_
  repeat' (first | refine pa ?_ | (refine pb ?_ ?_ <;> intro hg) | refine po ?_ | fail)
  refine aW.loopF rfl (fun q : Nat × Int × List (List T) => [(5, .t (.int .i64 q.1)), (1, .t (.int .i64 q.2.1))]) [(0, _)] (fun q : Nat × Int × List (List T) => [(0, 0, .row true true 9 q.2.2)]) [] (fun q : Nat × Int × List (List T) => q.2.1 = k + q.1 ∧ MapInv strC 1 (iotaS k n) q.2.2 q.1) (fun q : Nat × Int × List (List T) => n - q.1) (0, k, els) ⟨(Int.add_zero k).symm, Nat.zero_le _, by rw [hl]; exact hn, hu, rfl⟩ (by (exact plei)) ?_
  rintro ⟨i, v, es⟩ hI
  obtain ⟨hv, hI⟩ : v = k + i ∧ MapInv strC 1 (iotaS k n) es i := hI
  obtain ⟨hI1, hI2⟩ : i ≤ n ∧ es.length = n := ⟨hl ▸ hI.le, hl ▸ hI.len⟩
  have hm := a_l_markText v
  dsimp only [List.cons_append, List.nil_append]
  repeat' (first | refine pa ?_ | (refine pb ?_ ?_ <;> intro hg) | (refine q4ed5 (n := 20) ?_; (first | refine qeaf1 (hm) ?_)) | refine po ?_ | fail)
  · exact ⟨(i + 1, _, _), ⟨by show v + 1 = k + ((i + 1 : Nat) : Int); omega, hI.step (c := [.str (markT v)]) (by omega) (by rw [iotaS_getD (by omega), hv]; rfl) rfl⟩, by show n - (i + 1) < n - i; omega, by (exact ple)⟩
  · have hk : i = n := by omega
    subst hk
    have he : es = strsE (iotaS k i) := MapInv.all (xs := iotaS k i) (by rw [hl]; exact hI)
    subst he
    (show DoneM _ _ _ _ _ _ _; refine qb0ba ?_; first | exact .inl ⟨rfl, rfl, rfl⟩ | refine .inr ⟨rfl, ?_, (by first | exact List.nodup_nil | simp [ids2, ids1, ids0]), rfl⟩)
    exact .inl (congrArg (T.int .i64) hv)
set_option maxRecDepth 20000 in
set_option maxHeartbeats 4000000 in
theorem a_l_heldStringS (n : Nat) (k : Int) (h0 : 0 ≤ k) (h1 : k + n ≤ 1152921504606846976) : AC Try.prog 165 [.t (.lst true 9 (strsE (iotaS k n))), .t (.int .i64 k)] (.t (.int .i64 (k+n))) := by
  have hl := iotaS_len k n
  refine AC.go Try.func165 Try.ntmps165 fun B W hr => ?_
  repeat' (first | refine pa ?_ | (refine pb ?_ ?_ <;> intro hg) | refine po ?_ | (refine T49d2 ?_) | fail)
  refine aW.loopF rfl (fun q : Nat × Int => [(5, .t (.int .i64 q.1)), (1, .t (.int .i64 q.2))]) [(0, _)] (fun q : Nat × Int => []) [] (fun q : Nat × Int => q.2 = k + q.1 ∧ q.1 ≤ n) (fun q : Nat × Int => n - q.1) (0, k) ⟨(Int.add_zero k).symm, Nat.zero_le _⟩ (by (exact plei)) ?_
  rintro ⟨i, v⟩ hI
  obtain ⟨hv, hI⟩ : v = k + i ∧ i ≤ n := hI
  dsimp only [List.cons_append, List.nil_append]
  by_cases hin : i < n
  · have hat : (iotaS k n).getD i default = markT v := by rw [iotaS_getD hin, hv]
    have hm := a_l_markText v
    rw [← hat] at hm
    repeat' (first | refine pa ?_ | (refine pb ?_ ?_ <;> intro hg) | (refine q4ed5 (n := 20) ?_; (first | refine qeaf1 (hm) ?_)) | refine po ?_ | ((apply aW.drawq; (focus exact pos_); (focus exact Checked.mixed Try.checked); (focus rfl); (focus (refine aA.to (n' := 7) rfl rfl ?_; (apply aA.cut (ls := lsN 7 63) (n := 1); (focus (intro hd1; (refine pt0_ 0 ?_ <;> refine pt0_ 1 ?_ <;> refine pt17_ 2 ?_ <;> refine pt7_ 3 ?_ <;> refine pt0_ 4 ?_ <;> (refine pall [5] (And.intro ?_ trivial); (focus ((refine pop ?_; (refine q4ed5 (n := 20) ?_; (first | refine qeaf1 (hm) ?_))) <;> ((try refine pnorm ?_); exact pto hd1))))))); (case main => (refine pt10_ 6 ?_ <;> (refine pdone ?_; exact qf2c0)))))))) | fail)
    exact ⟨(i + 1, v + 1), ⟨by show v + 1 = k + ((i + 1 : Nat) : Int); omega, hin⟩, by show n - (i + 1) < n - i; omega, by (exact ple)⟩
  · repeat' (first | refine pa ?_ | (refine pb ?_ ?_ <;> intro hg) | refine po ?_ | (refine T49d2 ?_) | fail)
    refine pfin ?_
    exact .inl (congrArg (T.int .i64) (by omega))
end Go.Proofs.Ytmkpgcahmbancaa
