/- What is proved: general lemmas on owned typed data: kept over other changes, read, changed in one element, marked.
   Conditions: none beyond those that each lemma names. -/
import Derived.Test.YtoolhhgfeklhcaaLaw
namespace Go.Proofs.Ytoolhhgfeklhcaa
open Go.RowKit

/-! ### Owning -/
section
variable {z : Bool}
theorem TY.Own.keep : ∀ {t : TY} {w w' : World} {fp : List Nat} {cs : List Value} {x : t.V}, (∀ g ∈ fp, w'.heap[g]? = w.heap[g]?) → t.Own z w fp cs x → t.Own z w' fp cs x
  | .int _, _, _, _, _, _, _, h => h
  | .str, _, _, _, _, _, _, h => h
  | .bool, _, _, _, _, _, _, h => h
  | .slice _ t, _, _, _, _, _, hk, h => by
    obtain ⟨A, n, c, e, hn, h⟩ := h
    rcases h with h | ⟨g, off, cur, fps, e', hz, h1, h2, h3, h4, rfl, h5⟩
    · exact ⟨A, n, c, e, hn, Or.inl h⟩
    · exact ⟨A, n, c, e, hn, Or.inr ⟨g, off, cur, fps, e', hz, h1, h2, (hk g (by simp)).trans h3, h4, rfl, h5.mono fun f _ _ hf hs => TY.Own.keep (t := t) (fun g hg => hk g (by simp [hf g hg])) hs⟩⟩
  | .struct f, _, _, _, _, _, hk, h => TY.Own.keep (t := f) hk h
  | .unit, _, _, _, _, _, _, h => h
  | .last a, _, _, _, _, _, hk, h => TY.Own.keep (t := a) hk h
  | .pair a b, _, _, _, _, _, hk, ⟨f1, f2, c1, c2, e1, e2, h1, h2⟩ => ⟨f1, f2, c1, c2, e1, e2, TY.Own.keep (t := a) (fun g hg => hk g (by subst e1; simp [hg])) h1, TY.Own.keep (t := b) (fun g hg => hk g (by subst e1; simp [hg])) h2⟩

theorem ownList_lt {α : Type} {n : Nat} {S : List Nat → List Value → α → Prop} (h : ∀ f c x, S f c x → ∀ g ∈ f, g < n) : ∀ {xs : List α} {fp : List Nat} {cs : List Value}, OwnList S xs fp cs → ∀ g ∈ fp, g < n
  | [], _, _, hc, g, hg => by rw [hc.1] at hg; cases hg
  | _ :: _, _, _, ⟨f1, f2, c1, c2, e1, e2, h1, h2⟩, g, hg => by
    subst e1
    rcases List.mem_append.1 hg with hg | hg
    · exact h _ _ _ h1 g hg
    · exact ownList_lt h h2 g hg

theorem TY.Own.lt : ∀ {t : TY} {w : World} {fp : List Nat} {cs : List Value} {x : t.V}, t.Own z w fp cs x → ∀ g ∈ fp, g < w.heap.size
  | .int _, _, _, _, _, h => by rw [h.1]; intro g hg; cases hg
  | .str, _, _, _, _, h => by rw [h.1]; intro g hg; cases hg
  | .bool, _, _, _, _, h => by rw [h.1]; intro g hg; cases hg
  | .slice _ t, w, _, _, _, h => by
    obtain ⟨A, n, c, e, hn, h⟩ := h
    rcases h with h | ⟨g, off, cur, fps, e', hz, h1, h2, h3, h4, rfl, h5⟩
    · rw [h.2.2.2]; intro g hg; cases hg
    · intro k hk
      rcases List.mem_cons.1 hk with rfl | hk
      · exact (Array.getElem?_eq_some_iff.1 h3).1
      · exact ownList_lt (n := w.heap.size) (fun _ _ _ hs => TY.Own.lt (t := t) hs) h5 k hk
  | .struct f, _, _, _, _, h => TY.Own.lt (t := f) h
  | .unit, _, _, _, _, h => by rw [h.1]; intro g hg; cases hg
  | .last a, _, _, _, _, h => TY.Own.lt (t := a) h
  | .pair a b, _, _, _, _, ⟨f1, f2, c1, c2, e1, e2, h1, h2⟩ => by
    subst e1
    intro g hg
    rcases List.mem_append.1 hg with hg | hg
    · exact TY.Own.lt (t := a) h1 g hg
    · exact TY.Own.lt (t := b) h2 g hg

theorem ownList_len {α : Type} {k : Nat} {S : List Nat → List Value → α → Prop} (h : ∀ f c x, S f c x → c.length = k) : ∀ {xs : List α} {fp : List Nat} {cs : List Value}, OwnList S xs fp cs → cs.length = xs.length * k
  | [], _, _, hc => by rw [hc.2]; simp
  | _ :: xs, _, _, ⟨f1, f2, c1, c2, e1, e2, h1, h2⟩ => by
    subst e2
    rw [List.length_append, h _ _ _ h1, ownList_len h h2, List.length_cons, Nat.add_mul]
    omega

theorem TY.Own.rd : ∀ {t : TY} {w : World} {B : Nat} {fp : List Nat} {cs : List Value} {x : t.V}, (∀ g ∈ fp, g < B) → t.Own z w fp cs x → t.Rd w B cs x
  | .int _, _, _, _, _, _, _, h => h.2
  | .str, _, _, _, _, _, _, h => h.2
  | .bool, _, _, _, _, _, _, h => h.2
  | .slice _ t, w, B, _, _, x, hB, h => by
    obtain ⟨A, n, c, e, hn, h⟩ := h
    rcases h with ⟨rfl, rfl, rfl, rfl⟩ | ⟨g, off, cur, fps, rfl, hz, h1, h2, h3, h4, rfl, h5⟩
    · have hx : x = [] := List.eq_nil_of_length_eq_zero hn
      subst hx
      exact ⟨none, 0, 0, e, rfl, by simp, by simp, [], ⟨by simp, fun h => absurd h (by simp)⟩, rfl⟩
    · have hrd : RdList (t.Rd w B) x ((cur.toList.drop off).take (n * t.sz)) := h5.rd fun f _ _ hf hs => TY.Own.rd (t := t) (fun g hg => hB g (by simp [hf g hg])) hs
      refine ⟨some ⟨g, off, none⟩, n, c, e, hn, h1, h2, _, ⟨by have := hrd.len (k := t.sz) (fun _ _ h => h.len); rw [hn] at this; exact this, fun _ => ⟨_, rfl, hB g (by simp), fun j u hu => ?_⟩⟩, hrd⟩
      rw [List.getElem?_take] at hu
      split at hu
      · rw [List.getElem?_drop] at hu
        have ha : (⟨g, off, none⟩ : Addr).add j = ⟨g, off + j, none⟩ := by unfold Addr.add; split <;> simp_all
        rw [ha, cell_of_row w g (off + j) cur _ (0, 0) h3]
        simpa using hu
      · cases hu
  | .struct f, _, _, _, _, _, hB, h => TY.Own.rd (t := f) hB h
  | .unit, _, _, _, _, _, _, h => h.2
  | .last a, _, _, _, _, _, hB, h => TY.Own.rd (t := a) hB h
  | .pair a b, _, _, _, _, _, hB, ⟨f1, f2, c1, c2, e1, e2, h1, h2⟩ => ⟨c1, c2, e2, TY.Own.rd (t := a) (fun g hg => hB g (by subst e1; simp [hg])) h1, TY.Own.rd (t := b) (fun g hg => hB g (by subst e1; simp [hg])) h2⟩

theorem TY.Own.any : ∀ {t : TY} {w : World} {fp : List Nat} {cs : List Value} {x : t.V}, t.Own true w fp cs x → t.Own z w fp cs x
  | .int _, _, _, _, _, h => h
  | .str, _, _, _, _, h => h
  | .bool, _, _, _, _, h => h
  | .slice _ t, _, _, _, _, h => by
    obtain ⟨A, n, c, e, hn, h⟩ := h
    rcases h with h | ⟨g, off, cur, fps, e', hz, h1, h2, h3, h4, rfl, h5⟩
    · exact ⟨A, n, c, e, hn, Or.inl h⟩
    · exact ⟨A, n, c, e, hn, Or.inr ⟨g, off, cur, fps, e', fun _ => hz rfl, h1, h2, h3, h4, rfl, h5.mono fun f _ _ hf hs => TY.Own.any (t := t) hs⟩⟩
  | .struct f, _, _, _, _, h => TY.Own.any (t := f) h
  | .unit, _, _, _, _, h => h
  | .last a, _, _, _, _, h => TY.Own.any (t := a) h
  | .pair a b, _, _, _, _, ⟨f1, f2, c1, c2, e1, e2, h1, h2⟩ => ⟨f1, f2, c1, c2, e1, e2, TY.Own.any (t := a) h1, TY.Own.any (t := b) h2⟩
end

section
variable {z : Bool} {t : TY} {w w' : World} {B : Nat} {fp : List Nat} {cs : List Value} {x : t.V}
theorem TY.Own.rd' (h : t.Own z w fp cs x) : t.Rd w w.heap.size cs x := h.rd h.lt
theorem TY.Own.len (h : t.Own z w fp cs x) : cs.length = t.sz := (h.rd h.lt).len
theorem TY.Own.below (h : t.Own z w fp cs x) (hb : Below B w w') (hB : w.heap.size ≤ B) : t.Own z w' fp cs x := h.keep fun g hg => hb.block g (Nat.lt_of_lt_of_le (h.lt g hg) hB)
theorem TY.Own.alloc (h : t.Own z w fp cs x) (o : Obj) : t.Own z (w.alloc o) fp cs x := h.keep fun g hg => Below.heap_alloc w o g (h.lt g hg)
end

/-! ### One element of a list -/
section
variable {α : Type} {S : List Nat → List Value → α → Prop}
theorem OwnList.split : ∀ {xs : List α} {fp : List Nat} {cs : List Value} {k : Nat} (hk : k < xs.length), OwnList S xs fp cs →
    ∃ f1 f2 f3 c1 c2 c3, fp = f1 ++ (f2 ++ f3) ∧ cs = c1 ++ (c2 ++ c3) ∧ OwnList S (xs.take k) f1 c1 ∧ S f2 c2 xs[k] ∧ OwnList S (xs.drop (k + 1)) f3 c3
  | [], _, _, _, hk, _ => by simp at hk
  | x :: xs, _, _, 0, _, ⟨f1, f2, c1, c2, e1, e2, h1, h2⟩ => ⟨[], f1, f2, [], c1, c2, by simp [e1], by simp [e2], ⟨rfl, rfl⟩, h1, by simpa using h2⟩
  | x :: xs, _, _, k + 1, hk, ⟨f1, f2, c1, c2, e1, e2, h1, h2⟩ => by
    obtain ⟨g1, g2, g3, d1, d2, d3, e3, e4, h3, h4, h5⟩ := OwnList.split (k := k) (by simpa using hk) h2
    subst e1 e2 e3 e4
    exact ⟨f1 ++ g1, g2, g3, c1 ++ d1, d2, d3, by simp, by simp, ⟨f1, g1, c1, d1, rfl, rfl, h1, h3⟩, h4, by simpa using h5⟩
theorem OwnList.join {xs zs : List α} {y : α} {f1 f2 f3 : List Nat} {c1 c2 c3 : List Value} (h1 : OwnList S xs f1 c1) (h2 : S f2 c2 y) (h3 : OwnList S zs f3 c3) :
    OwnList S (xs ++ y :: zs) (f1 ++ (f2 ++ f3)) (c1 ++ (c2 ++ c3)) := h1.append ⟨f2, f3, c2, c3, rfl, rfl, h2, h3⟩
theorem OwnList.set {xs : List α} {y : α} {k : Nat} (hk : k < xs.length) {f1 f2 f3 : List Nat} {c1 c2 c3 : List Value} (h1 : OwnList S (xs.take k) f1 c1) (h2 : S f2 c2 y) (h3 : OwnList S (xs.drop (k + 1)) f3 c3) :
    OwnList S (xs.set k y) (f1 ++ (f2 ++ f3)) (c1 ++ (c2 ++ c3)) := by
  rw [List.set_eq_take_append_cons_drop, if_pos hk]
  exact h1.join h2 h3
end

theorem add_zero_off (g off j : Nat) : (⟨g, off, none⟩ : Addr).add j = ⟨g, off + j, none⟩ := by unfold Addr.add; split <;> simp_all

/-- A list of which element k is taken out, to be put back changed. -/
theorem TY.Own.elem {z : Bool} {e : TypeId} {t : TY} {w : World} {fp : List Nat} {A : Option Addr} {n c k : Nat} {xs : List t.V} (h : (TY.slice e t).Own z w fp [.slice A n c] xs) (hk : k < xs.length) :
    ∃ (g off : Nat) (cur : Array Value) (f1 f2 f3 : List Nat) (ck : List Value), A = some ⟨g, off, none⟩ ∧ (z = true → off = 0) ∧ w.heap[g]? = some (.cells cur e (0, 0)) ∧ off + (k + 1) * t.sz ≤ cur.size ∧ fp = g :: (f1 ++ (f2 ++ f3)) ∧ t.Own z w f2 ck xs[k] ∧ (∀ j v, ck[j]? = some v → cur[off + k * t.sz + j]? = some v) ∧
      ∀ (w' : World) (f2' : List Nat) (ck' : List Value) (x' : t.V) (cur' : Array Value), (∀ b ∈ f1 ++ f3, w'.heap[b]? = w.heap[b]?) → t.Own z w' f2' ck' x' → w'.heap[g]? = some (.cells cur' e (0, 0)) → cur'.size = cur.size →
        (∀ i, i < off + k * t.sz ∨ off + (k + 1) * t.sz ≤ i → cur'[i]? = cur[i]?) → (∀ j v, ck'[j]? = some v → cur'[off + k * t.sz + j]? = some v) → (TY.slice e t).Own z w' (g :: (f1 ++ (f2' ++ f3))) [.slice A n c] (xs.set k x') := by
  obtain ⟨A', n', c', e', hn, h⟩ := h
  obtain ⟨rfl, rfl, rfl⟩ : A = A' ∧ n = n' ∧ c = c' := by simpa using e'
  rcases h with ⟨rfl, rfl, rfl, rfl⟩ | ⟨g, off, cur, fps, rfl, hz, h1, h2, h3, h4, rfl, h5⟩
  · omega
  · obtain ⟨f1, f2, f3, c1, c2, c3, rfl, hc, h6, h7, h8⟩ := h5.split hk
    have l1 : c1.length = k * t.sz := by
      have := ownList_len (k := t.sz) (fun _ _ _ hs => TY.Own.len hs) h6
      rw [this, List.length_take, Nat.min_eq_left (Nat.le_of_lt hk)]
    have l2 : c2.length = t.sz := h7.len
    have l3 : c3.length = (n - (k + 1)) * t.sz := by
      have := ownList_len (k := t.sz) (fun _ _ _ hs => TY.Own.len hs) h8
      rw [this, List.length_drop, hn]
    have hkn : k + 1 ≤ n := by omega
    have hkc : (k + 1) * t.sz ≤ n * t.sz := Nat.mul_le_mul_right _ hkn
    have hcc : n * t.sz ≤ c * t.sz := Nat.mul_le_mul_right _ h1
    have hks : (k + 1) * t.sz = k * t.sz + t.sz := by rw [Nat.add_mul, Nat.one_mul]
    have hns : n * t.sz = (k + 1) * t.sz + (n - (k + 1)) * t.sz := by rw [← Nat.add_mul]; congr 1; omega
    have hg : ∀ i, i < n * t.sz → cur[off + i]? = (c1 ++ (c2 ++ c3))[i]? := by
      intro i hi
      have := congrArg (fun l : List Value => l[i]?) hc
      simp only [List.getElem?_take, if_pos hi, List.getElem?_drop] at this
      rw [← this]
      simp
    refine ⟨g, off, cur, f1, f2, f3, c2, rfl, hz, h3, by omega, rfl, h7, fun j v hv => ?_, fun w' f2' ck' x' cur' hk' ho hh hsz hout hin => ?_⟩
    · have hj : j < t.sz := by have := (List.getElem?_eq_some_iff.1 hv).1; omega
      rw [Nat.add_assoc, hg _ (by omega), List.getElem?_append_right (by omega), List.getElem?_append_left (by omega), l1]
      rw [show k * t.sz + j - k * t.sz = j by omega]
      exact hv
    · refine ⟨some ⟨g, off, none⟩, n, c, rfl, by simpa using hn, Or.inr ⟨g, off, cur', _, rfl, hz, h1, h2, hh, by rw [hsz]; exact h4, rfl, ?_⟩⟩
      have l2' : ck'.length = t.sz := ho.len
      have hc' : (cur'.toList.drop off).take (n * t.sz) = c1 ++ (ck' ++ c3) := by
        refine List.ext_getElem? fun i => ?_
        rw [List.getElem?_take]
        by_cases hi : i < n * t.sz
        · rw [if_pos hi, List.getElem?_drop, Array.getElem?_toList]
          by_cases hi1 : i < k * t.sz
          · rw [hout _ (Or.inl (by omega)), hg i hi, List.getElem?_append_left (by omega), List.getElem?_append_left (by omega)]
          · by_cases hi2 : i < (k + 1) * t.sz
            · have hlt : i - k * t.sz < ck'.length := by omega
              have := hin (i - k * t.sz) _ (List.getElem?_eq_getElem hlt)
              rw [show off + k * t.sz + (i - k * t.sz) = off + i by omega] at this
              rw [this, List.getElem?_append_right (by omega), List.getElem?_append_left (by omega), l1, List.getElem?_eq_getElem hlt]
            · rw [hout _ (Or.inr (by omega)), hg i hi, List.getElem?_append_right (by omega), List.getElem?_append_right (by omega), List.getElem?_append_right (by omega), List.getElem?_append_right (by omega), l1, l2, l2']
        · rw [if_neg hi, List.getElem?_eq_none]
          simp only [List.length_append]
          omega
      rw [hc']
      refine OwnList.set hk (h6.mono fun f _ _ hf hs => hs.keep fun b hb => hk' b (by simp [hf b hb])) ho (h8.mono fun f _ _ hf hs => hs.keep fun b hb => hk' b (by simp [hf b hb]))

/-! ### Owned between two marks of the heap -/
def TY.In (z : Bool) (t : TY) (lo hi : Nat) (w : World) (cs : List Value) (x : t.V) : Prop := ∃ fp, t.Own z w fp cs x ∧ fp.Nodup ∧ ∀ g ∈ fp, lo ≤ g ∧ g < hi

section
variable {z : Bool} {t : TY} {w w' : World} {B lo hi lo' hi' : Nat} {cs : List Value} {x : t.V}
theorem TY.In.keep (hk : ∀ g, lo ≤ g → g < hi → g < w.heap.size → w'.heap[g]? = w.heap[g]?) (h : t.In z lo hi w cs x) : t.In z lo hi w' cs x := by
  obtain ⟨fp, h1, h2, h3⟩ := h
  exact ⟨fp, h1.keep fun g hg => hk g (h3 g hg).1 (h3 g hg).2 (h1.lt g hg), h2, h3⟩
theorem TY.In.below (h : t.In z lo hi w cs x) (hb : Below B w w') (hB : hi ≤ B) : t.In z lo hi w' cs x := TY.In.keep (fun g _ h2 _ => hb.block g (Nat.lt_of_lt_of_le h2 hB)) h
theorem TY.In.alloc (h : t.In z lo hi w cs x) (o : Obj) : t.In z lo hi (w.alloc o) cs x := TY.In.keep (fun g _ _ hg => Below.heap_alloc w o g hg) h
theorem TY.In.drewN (h : t.In z lo hi w cs x) (k : Nat) : t.In z lo hi (w.drewN k) cs x := TY.In.keep (w := w) (fun _ _ _ _ => rfl) h
theorem TY.In.drew (h : t.In z lo hi w cs x) : t.In z lo hi w.drew cs x := TY.In.keep (w := w) (fun _ _ _ _ => rfl) h
theorem TY.In.wider (h : t.In z lo hi w cs x) (h1 : lo' ≤ lo) (h2 : hi ≤ hi') : t.In z lo' hi' w cs x := by
  obtain ⟨fp, h3, h4, h5⟩ := h
  exact ⟨fp, h3, h4, fun g hg => ⟨Nat.le_trans h1 (h5 g hg).1, Nat.lt_of_lt_of_le (h5 g hg).2 h2⟩⟩
theorem TY.In.tight (h : t.In z lo hi w cs x) : t.In z lo w.heap.size w cs x := by
  obtain ⟨fp, h3, h4, h5⟩ := h
  exact ⟨fp, h3, h4, fun g hg => ⟨(h5 g hg).1, h3.lt g hg⟩⟩
theorem TY.In.rd (h : t.In z lo hi w cs x) : t.Rd w hi cs x := by
  obtain ⟨fp, h3, _, h5⟩ := h
  exact h3.rd fun g hg => (h5 g hg).2
theorem TY.In.rdw (h : t.In z lo hi w cs x) : t.Rd w w.heap.size cs x := h.tight.rd
theorem TY.In.any (h : t.In true lo hi w cs x) : t.In z lo hi w cs x := by
  obtain ⟨fp, h3, h4, h5⟩ := h
  exact ⟨fp, h3.any, h4, h5⟩
end

/-- The pair of two owned things that lie one behind the other. -/
theorem TY.In.pair {z : Bool} {a b : TY} {lo m hi : Nat} {w : World} {c1 c2 : List Value} {x : a.V} {y : b.V} (h1 : a.In z lo m w c1 x) (h2 : b.In z m hi w c2 y) (hlo : lo ≤ m) (hm : m ≤ hi) : (TY.pair a b).In z lo hi w (c1 ++ c2) (x, y) := by
  obtain ⟨f1, o1, n1, r1⟩ := h1
  obtain ⟨f2, o2, n2, r2⟩ := h2
  refine ⟨f1 ++ f2, ⟨f1, f2, c1, c2, rfl, rfl, o1, o2⟩, List.nodup_append.2 ⟨n1, n2, fun g h1 g' h2 => ?_⟩, fun g hg => ?_⟩
  · have := (r1 g h1).2
    have := (r2 g' h2).1
    omega
  · rcases List.mem_append.1 hg with h | h
    · have := r1 g h; omega
    · have := r2 g h; omega
theorem TY.In.pair2 {z : Bool} {a b : TY} {lo m hi : Nat} {w : World} {c1 c2 : List Value} {x : a.V} {y : b.V} (h1 : a.In z m hi w c1 x) (h2 : b.In z lo m w c2 y) (hlo : lo ≤ m) (hm : m ≤ hi) : (TY.pair a b).In z lo hi w (c1 ++ c2) (x, y) := by
  obtain ⟨f1, o1, n1, r1⟩ := h1
  obtain ⟨f2, o2, n2, r2⟩ := h2
  refine ⟨f1 ++ f2, ⟨f1, f2, c1, c2, rfl, rfl, o1, o2⟩, List.nodup_append.2 ⟨n1, n2, fun g h1 g' h2 => ?_⟩, fun g hg => ?_⟩
  · have := (r1 g h1).1
    have := (r2 g' h2).2
    omega
  · rcases List.mem_append.1 hg with h | h
    · have := r1 g h; omega
    · have := r2 g h; omega
theorem TY.In.int (z : Bool) (lo hi : Nat) (w : World) {k : IntKind} {n : Int} (h : (Lit.int k n).wf = true) : (TY.int k).In z lo hi w [.int k n] n := ⟨[], ⟨rfl, rfl, h⟩, by simp, by simp⟩
theorem TY.In.str (z : Bool) (lo hi : Nat) (w : World) {s : ByteArray} (h : s.size ≤ maxLen) : TY.str.In z lo hi w [.string s] s := ⟨[], ⟨rfl, rfl, h⟩, by simp, by simp⟩
theorem TY.In.bool (z : Bool) (lo hi : Nat) (w : World) (b : Bool) : TY.bool.In z lo hi w [.bool b] b := ⟨[], ⟨rfl, rfl⟩, by simp, by simp⟩
theorem TY.In.nil (z : Bool) (e : TypeId) (t : TY) (lo hi : Nat) (w : World) : (TY.slice e t).In z lo hi w [.slice none 0 0] [] := ⟨[], ⟨none, 0, 0, rfl, rfl, Or.inl ⟨rfl, rfl, rfl, rfl⟩⟩, by simp, by simp⟩

/-! ### A change inside two marks -/
structure Touch (lo hi : Nat) (w w' : World) : Prop where
  os : w'.os = w.os
  tape : w'.tape = w.tape
  output : w'.output = w.output
  size : w.heap.size ≤ w'.heap.size
  block : ∀ g, g < w.heap.size → (g < lo ∨ hi ≤ g) → w'.heap[g]? = w.heap[g]?
section
variable {w w' w'' : World} {B lo hi : Nat}
theorem Touch.below (h : Touch lo hi w w') (h1 : B ≤ lo) (h2 : B ≤ w.heap.size) : Below B w w' := ⟨h.os, h.tape, h.output, h.size, fun k hk => h.block k (by omega) (Or.inl (by omega))⟩
theorem TY.In.touch {z : Bool} {t : TY} {lo' hi' : Nat} {cs : List Value} {x : t.V} (h : t.In z lo' hi' w cs x) (ht : Touch lo hi w w') (hd : hi' ≤ lo ∨ hi ≤ lo') : t.In z lo' hi' w' cs x :=
  TY.In.keep (fun g h1 h2 h3 => ht.block g h3 (by omega)) h
end
/-- What a marking does: blocks outside the footprint stay. -/
structure Marked (fp : List Nat) (w w' : World) : Prop where
  os : w'.os = w.os
  tape : w'.tape = w.tape
  output : w'.output = w.output
  size : w.heap.size ≤ w'.heap.size
  block : ∀ g, g < w.heap.size → g ∉ fp → w'.heap[g]? = w.heap[g]?
section
variable {w w' w'' : World} {fp fp' : List Nat}
theorem Marked.refl (fp : List Nat) (w : World) : Marked fp w w := ⟨rfl, rfl, rfl, Nat.le_refl _, fun _ _ _ => rfl⟩
theorem Marked.trans (h : Marked fp w w') (h' : Marked fp w' w'') : Marked fp w w'' := ⟨h'.os.trans h.os, h'.tape.trans h.tape, h'.output.trans h.output, Nat.le_trans h.size h'.size, fun g h1 hg => (h'.block g (Nat.lt_of_lt_of_le h1 h.size) hg).trans (h.block g h1 hg)⟩
theorem Marked.alloc (h : Marked fp w w') (o : Obj) : Marked fp w (w'.alloc o) := ⟨h.os, h.tape, h.output, by have := h.size; simp; omega, fun g h1 hg => (Below.heap_alloc w' o g (Nat.lt_of_lt_of_le h1 h.size)).trans (h.block g h1 hg)⟩
theorem Marked.more (h : Marked fp w w') (hs : ∀ g ∈ fp, g ∈ fp') : Marked fp' w w' := ⟨h.os, h.tape, h.output, h.size, fun g h1 hg => h.block g h1 fun h => hg (hs g h)⟩
theorem Marked.setCell (h : Marked fp w w') {p : Addr} (hp : p.block ∈ fp) (v : Value) : Marked fp w (w'.setCell p v) :=
  ⟨h.os, h.tape, h.output, by have := h.size; simpa [World.setCell] using this, fun g h1 hg => (Below.heap_setCell _ _ _ _ (fun e => hg (by rw [e]; exact hp))).trans (h.block g h1 hg)⟩
theorem Marked.touch {lo hi : Nat} (h : Marked fp w w') (hf : ∀ g ∈ fp, lo ≤ g ∧ g < hi) : Touch lo hi w w' := ⟨h.os, h.tape, h.output, h.size, fun g h1 hg => h.block g h1 fun hm => by have := hf g hm; omega⟩
end
/-- From a marking of owned data to one between two marks. -/
theorem TY.In.marked {z : Bool} {t : TY} {lo hi : Nat} {w : World} {cs : List Value} {x y : t.V} {f : FuncId} {args : Array Value} {P : Program} {r : Ending} (h : t.In z lo hi w cs x)
    (hc : ∀ fp, t.Own z w fp cs x → fp.Nodup → Calls P f args w fun e w' => e = r ∧ Marked fp w w' ∧ t.Own z w' fp cs y) :
    Calls P f args w fun e w' => e = r ∧ Touch lo hi w w' ∧ t.In z lo hi w' cs y := by
  obtain ⟨fp, h1, h2, h3⟩ := h
  exact (hc fp h1 h2).mono fun e w' ⟨he, hm, ho⟩ => ⟨he, hm.touch h3, fp, ho, h2, h3⟩

/-! ### Storing one cell of a list of one-cell elements -/
theorem TY.In.set1 {z : Bool} {e : TypeId} {t : TY} {lo hi lo' hi' : Nat} {w : World} {g off n c k o : Nat} {v : Value} {xs : List t.V} {x : t.V} (hsz : t.sz = 1) (h : (TY.slice e t).In z lo hi w [.slice (some ⟨g, off, none⟩) n c] xs) (hk : k < xs.length)
    (hx : t.In z lo' hi' w [v] x) (hh : hi ≤ lo') (hhi : hi ≤ hi') (hlo : lo ≤ lo') (ho : o = off + k) : (TY.slice e t).In z lo hi' (w.setCell ⟨g, o, none⟩ v) [.slice (some ⟨g, off, none⟩) n c] (xs.set k x) := by
  obtain ⟨fp, h1, h2, h3⟩ := h
  obtain ⟨fx, h4, h5, h6⟩ := hx
  obtain ⟨g', off', cur, f1, f2, f3, ck, hA, _, hh', hsz', rfl, ho', hc, hput⟩ := h1.elem hk
  obtain ⟨rfl, rfl⟩ : g = g' ∧ off = off' := by simpa using hA
  have hgl : lo ≤ g ∧ g < hi := h3 g (by simp)
  rw [hsz] at hsz' hput
  have hne : ∀ b, b ≠ g → (w.setCell ⟨g, o, none⟩ v).heap[b]? = w.heap[b]? := fun b hb => Below.heap_setCell _ _ _ _ hb
  refine ⟨_, hput (w.setCell ⟨g, o, none⟩ v) fx [v] x (cur.setIfInBounds o v) (fun b hb => hne b ?_) (h4.keep fun b hb => hne b ?_) ?_ (by simp) (fun i hi => ?_) (fun j u hj => ?_), ?_, ?_⟩
  · rintro rfl
    simp only [List.nodup_cons] at h2
    exact h2.1 (by simp only [List.mem_append] at hb ⊢; rcases hb with h | h <;> simp [h])
  · rintro rfl
    have := h6 _ hb
    omega
  · simp [World.setCell, Array.getElem?_modify, hh']
  · rw [Array.getElem?_setIfInBounds, if_neg (by omega)]
  · cases j with
    | zero =>
      simp at hj
      subst hj
      rw [Array.getElem?_setIfInBounds, if_pos (by omega), if_pos (by omega)]
    | succ j => simp at hj
  · simp only [List.nodup_cons, List.nodup_append, List.mem_append] at h2 ⊢
    obtain ⟨hg, hn1, ⟨hn2, hn3, hd23⟩, hd1⟩ := h2
    refine ⟨fun hm => ?_, hn1, ⟨h5, hn3, fun a ha b hb => ?_⟩, fun a ha b hb => ?_⟩
    · rcases hm with hm | hm | hm
      · exact hg (Or.inl hm)
      · have := h6 _ hm; omega
      · exact hg (Or.inr (Or.inr hm))
    · have := h6 _ ha
      have := h3 b (by simp [hb])
      omega
    · rcases hb with hb | hb
      · have := h6 _ hb
        have := h3 a (by simp [ha])
        omega
      · exact hd1 a ha b (Or.inr hb)
  · intro b hb
    simp only [List.mem_cons, List.mem_append] at hb
    rcases hb with rfl | hb | hb | hb
    · omega
    · have := h3 b (by simp [hb]); omega
    · have := h6 b hb; omega
    · have := h3 b (by simp [hb]); omega

/-! ### Flat data: no slices inside -/
def TY.flat : TY → Bool
  | .int _ | .str | .bool | .unit => true
  | .slice _ _ => false
  | .struct f => f.flat
  | .last f => f.flat
  | .pair a b => a.flat && b.flat
def TY.cells : (t : TY) → t.V → List Value
  | .int k, n => [.int k n]
  | .str, s => [.string s]
  | .bool, b => [.bool b]
  | .unit, _ => []
  | .slice _ _, _ => []
  | .struct f, x => f.cells x
  | .last f, x => f.cells x
  | .pair a b, x => a.cells x.1 ++ b.cells x.2
def TY.okV : (t : TY) → t.V → Prop
  | .int k, n => (Lit.int k n).wf = true
  | .str, s => s.size ≤ maxLen
  | .bool, _ => True
  | .unit, _ => True
  | .slice _ _, _ => True
  | .struct f, x => f.okV x
  | .last f, x => f.okV x
  | .pair a b, x => a.okV x.1 ∧ b.okV x.2
theorem TY.own_flat {z : Bool} : ∀ {t : TY} {w : World} {fp : List Nat} {cs : List Value} {x : t.V}, t.flat = true → (t.Own z w fp cs x ↔ fp = [] ∧ cs = t.cells x ∧ t.okV x)
  | .int _, _, _, _, _, _ => Iff.rfl
  | .str, _, _, _, _, _ => Iff.rfl
  | .bool, _, fp, cs, x, _ => ⟨fun h => ⟨h.1, h.2, trivial⟩, fun h => ⟨h.1, h.2.1⟩⟩
  | .unit, _, fp, cs, x, _ => ⟨fun h => ⟨h.1, h.2, trivial⟩, fun h => ⟨h.1, h.2.1⟩⟩
  | .slice _ _, _, _, _, _, h => by cases h
  | .struct f, _, _, _, _, h => TY.own_flat (t := f) h
  | .last f, _, _, _, _, h => TY.own_flat (t := f) h
  | .pair a b, w, fp, cs, x, h => by
    unfold TY.flat at h
    rw [Bool.and_eq_true] at h
    constructor
    · rintro ⟨f1, f2, c1, c2, rfl, rfl, h1, h2⟩
      obtain ⟨rfl, rfl, h3⟩ := (TY.own_flat (t := a) h.1).1 h1
      obtain ⟨rfl, rfl, h4⟩ := (TY.own_flat (t := b) h.2).1 h2
      exact ⟨rfl, rfl, h3, h4⟩
    · rintro ⟨rfl, rfl, h1, h2⟩
      exact ⟨[], [], _, _, rfl, rfl, (TY.own_flat (t := a) h.1).2 ⟨rfl, rfl, h1⟩, (TY.own_flat (t := b) h.2).2 ⟨rfl, rfl, h2⟩⟩
theorem TY.rd_flat : ∀ {t : TY} {w : World} {B : Nat} {cs : List Value} {x : t.V}, t.flat = true → (t.Rd w B cs x ↔ cs = t.cells x ∧ t.okV x)
  | .int _, _, _, _, _, _ => Iff.rfl
  | .str, _, _, _, _, _ => Iff.rfl
  | .bool, _, _, cs, x, _ => ⟨fun h => ⟨h, trivial⟩, fun h => h.1⟩
  | .unit, _, _, cs, x, _ => ⟨fun h => ⟨h, trivial⟩, fun h => h.1⟩
  | .slice _ _, _, _, _, _, h => by cases h
  | .struct f, _, _, _, _, h => TY.rd_flat (t := f) h
  | .last f, _, _, _, _, h => TY.rd_flat (t := f) h
  | .pair a b, w, B, cs, x, h => by
    unfold TY.flat at h
    rw [Bool.and_eq_true] at h
    constructor
    · rintro ⟨c1, c2, rfl, h1, h2⟩
      obtain ⟨rfl, h3⟩ := (TY.rd_flat (t := a) h.1).1 h1
      obtain ⟨rfl, h4⟩ := (TY.rd_flat (t := b) h.2).1 h2
      exact ⟨rfl, h3, h4⟩
    · rintro ⟨rfl, h1, h2⟩
      exact ⟨_, _, rfl, (TY.rd_flat (t := a) h.1).2 ⟨rfl, h1⟩, (TY.rd_flat (t := b) h.2).2 ⟨rfl, h2⟩⟩
theorem ownList_flat {z : Bool} {t : TY} (ht : t.flat = true) {w : World} : ∀ {xs : List t.V} {fp : List Nat} {cs : List Value}, OwnList (t.Own z w) xs fp cs ↔ fp = [] ∧ cs = xs.flatMap t.cells ∧ ∀ x ∈ xs, t.okV x
  | [], fp, cs => ⟨fun h => ⟨h.1, h.2, by simp⟩, fun h => ⟨h.1, h.2.1⟩⟩
  | x :: xs, fp, cs => by
    constructor
    · rintro ⟨f1, f2, c1, c2, rfl, rfl, h1, h2⟩
      obtain ⟨rfl, rfl, h3⟩ := (TY.own_flat ht).1 h1
      obtain ⟨rfl, rfl, h4⟩ := (ownList_flat ht).1 h2
      refine ⟨rfl, by simp, fun y hy => ?_⟩
      rcases List.mem_cons.1 hy with rfl | hy
      · exact h3
      · exact h4 y hy
    · rintro ⟨rfl, rfl, h⟩
      exact ⟨[], [], t.cells x, xs.flatMap t.cells, rfl, by simp, (TY.own_flat ht).2 ⟨rfl, rfl, h x (by simp)⟩, (ownList_flat ht).2 ⟨rfl, rfl, fun y hy => h y (by simp [hy])⟩⟩

/-! ### From and to the kit's rows -/
theorem TY.In.of_row {e : TypeId} {t : TY} {w : World} {base n c : Nat} {A : Option Addr} {cs : List Value} {xs : List t.V} {fps : List Nat} (h : w.ownsRow base e t.sz (.slice A n c) n cs) (hn : xs.length = n) (ho : OwnList (t.Own true w) xs fps cs)
    (hd : fps.Nodup) (hr : ∀ g ∈ fps, base ≤ g) (hne : ∀ g ∈ fps, (Value.slice A n c).ownBlock ≠ some g) : (TY.slice e t).In true base w.heap.size w [.slice A n c] xs := by
  rcases h.2 with ⟨hv, h0⟩ | ⟨g, cap, cur, hv, hb, hg, hnc, hcm, hcs, htake⟩
  · obtain ⟨rfl, _, rfl⟩ : A = none ∧ n = 0 ∧ c = 0 := by simpa using hv
    subst h0
    have hx : xs = [] := List.eq_nil_of_length_eq_zero hn
    subst hx
    exact TY.In.nil _ _ _ _ _ _
  · obtain ⟨rfl, rfl⟩ : A = some ⟨g, 0, none⟩ ∧ c = cap := by simpa using hv
    have hgl := (Array.getElem?_eq_some_iff.1 hg).1
    refine ⟨g :: fps, ⟨_, _, _, rfl, hn, Or.inr ⟨g, 0, cur, fps, rfl, fun _ => rfl, hnc, hcm, hg, by simpa using hcs, rfl, ?_⟩⟩, List.nodup_cons.2 ⟨fun hm => hne g hm rfl, hd⟩, fun b hb' => ?_⟩
    · rw [List.drop_zero, htake]
      exact ho
    · rcases List.mem_cons.1 hb' with rfl | hb'
      · exact ⟨hb, hgl⟩
      · exact ⟨hr b hb', ownList_lt (n := w.heap.size) (fun _ _ _ hs => hs.lt) ho b hb'⟩
theorem TY.In.of_flat {e : TypeId} {t : TY} (ht : t.flat = true) {w : World} {base n c : Nat} {A : Option Addr} {xs : List t.V} (h : w.ownsRow base e t.sz (.slice A n c) n (xs.flatMap t.cells)) (hn : xs.length = n) (ho : ∀ x ∈ xs, t.okV x) :
    (TY.slice e t).In true base w.heap.size w [.slice A n c] xs := TY.In.of_row h hn ((ownList_flat ht).2 ⟨rfl, rfl, ho⟩) (by simp) (by simp) (by simp)
end Go.Proofs.Ytoolhhgfeklhcaa
