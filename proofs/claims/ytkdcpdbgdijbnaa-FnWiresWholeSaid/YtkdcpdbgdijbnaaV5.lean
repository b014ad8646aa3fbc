/- What is proved: stable sorting in plain terms: a sorted list that keeps the order of equal keys is the only one, and how two sorted runs become one by symmetric merging.
   Conditions: none beyond those that each lemma names. -/
namespace Go.Proofs.Ytkdcpdbgdijbnaa
section
variable {α : Type} (K : α → Int)
/-- In ascending order of keys. -/
def SortK (l : List α) : Prop := l.Pairwise fun x y => K x ≤ K y
/-- For each key the same elements in the same order. -/
def SameK (l l' : List α) : Prop := ∀ v, l.filter (fun x => decide (K x = v)) = l'.filter (fun x => decide (K x = v))
/-- Every key of the one is at most every key of the other. -/
def LeK (l l' : List α) : Prop := ∀ x ∈ l, ∀ y ∈ l', K x ≤ K y
def LtK (l l' : List α) : Prop := ∀ x ∈ l, ∀ y ∈ l', K x < K y
variable {K} {a b c d l l' l'' : List α}
theorem SameK.refl (l : List α) : SameK K l l := fun _ => rfl
theorem SameK.symm (h : SameK K l l') : SameK K l' l := fun v => (h v).symm
theorem SameK.trans (h : SameK K l l') (h' : SameK K l' l'') : SameK K l l'' := fun v => (h v).trans (h' v)
theorem SameK.app (h : SameK K a b) (h' : SameK K c d) : SameK K (a ++ c) (b ++ d) := fun v => by rw [List.filter_append, List.filter_append, h v, h' v]
theorem SameK.mem (h : SameK K l l') {x : α} (hx : x ∈ l) : x ∈ l' := by
  have h1 : x ∈ l.filter (fun y => decide (K y = K x)) := List.mem_filter.2 ⟨hx, by simp⟩
  rw [h (K x)] at h1
  exact (List.mem_filter.1 h1).1
theorem SameK.perm_len : ∀ {l l' : List α}, SameK K l l' → l.length = l'.length
  | [], l', h => by
    cases l' with
    | nil => rfl
    | cons y r => exact absurd (h.symm.mem (x := y) (by simp)) (by simp)
  | x :: r, l', h => by
    have hx := h.mem (x := x) (by simp)
    -- the first element of l' with the key of x is x
    have h1 := h (K x)
    rw [List.filter_cons_of_pos (by simp)] at h1
    obtain ⟨l1, l2, e1, e2, e3, e4⟩ := List.filter_eq_cons_iff.1 h1.symm
    subst e1
    have hr : SameK K r (l1 ++ l2) := fun v => by
      by_cases hv : K x = v
      · subst hv
        rw [List.filter_append, List.filter_eq_nil_iff.2 e2, List.nil_append]
        exact e4.symm
      · have h2 := h v
        rw [List.filter_cons_of_neg (by simpa using hv), List.filter_append, List.filter_cons_of_neg (by simpa using hv), ← List.filter_append] at h2
        exact h2
    have ih := SameK.perm_len hr
    simp only [List.length_append, List.length_cons] at ih ⊢
    omega
/-- Blocks whose keys are all different change places. -/
theorem SameK.swap (h : LtK K b a) : SameK K (a ++ b) (b ++ a) := fun v => by
  rw [List.filter_append, List.filter_append]
  by_cases ha : ∃ x ∈ a, K x = v
  · obtain ⟨x, hx, rfl⟩ := ha
    have : b.filter (fun y => decide (K y = K x)) = [] := by
      rw [List.filter_eq_nil_iff]
      intro y hy
      have := h y hy x hx
      simp
      omega
    rw [this, List.append_nil, List.nil_append]
  · have : a.filter (fun y => decide (K y = v)) = [] := by
      rw [List.filter_eq_nil_iff]
      intro y hy
      simp
      exact fun e => ha ⟨y, hy, e⟩
    rw [this, List.append_nil, List.nil_append]
theorem LeK.of (h : SortK K (a ++ b)) : LeK K a b := fun x hx y hy => (List.pairwise_append.1 h).2.2 x hx y hy
theorem SortK.app (ha : SortK K a) (hb : SortK K b) (h : LeK K a b) : SortK K (a ++ b) := List.pairwise_append.2 ⟨ha, hb, h⟩
theorem SortK.left (h : SortK K (a ++ b)) : SortK K a := (List.pairwise_append.1 h).1
theorem SortK.right (h : SortK K (a ++ b)) : SortK K b := (List.pairwise_append.1 h).2.1
theorem SameK.sort_unique : ∀ {l l' : List α}, SameK K l l' → SortK K l → SortK K l' → l = l'
  | [], l', h, _, _ => by
    have := h.perm_len
    exact (List.eq_nil_of_length_eq_zero this.symm).symm
  | x :: r, [], h, _, _ => by have := h.perm_len; simp at this
  | x :: r, y :: r', h, hs, hs' => by
    have hs1 := List.pairwise_cons.1 hs
    have hs2 := List.pairwise_cons.1 hs'
    have k1 : K y ≤ K x := by
      have := h.mem (x := x) (by simp)
      rcases List.mem_cons.1 this with e | e
      · rw [e]; exact Int.le_refl _
      · exact hs2.1 x e
    have k2 : K x ≤ K y := by
      have := h.symm.mem (x := y) (by simp)
      rcases List.mem_cons.1 this with e | e
      · rw [e]; exact Int.le_refl _
      · exact hs1.1 y e
    have hk : K x = K y := by omega
    have h1 := h (K x)
    rw [List.filter_cons_of_pos (by simp), List.filter_cons_of_pos (by simp [hk])] at h1
    injection h1 with e1 e2
    subst e1
    have hr : SameK K r r' := fun v => by
      by_cases hv : K x = v
      · subst hv; exact e2
      · have h2 := h v
        rwa [List.filter_cons_of_neg (by simpa using hv), List.filter_cons_of_neg (by simpa using hv)] at h2
    rw [SameK.sort_unique hr hs1.2 hs2.2]
theorem LeK.same (h : LeK K a b) (ha : SameK K a c) (hb : SameK K b d) : LeK K c d := fun x hx y hy => h x (ha.symm.mem hx) y (hb.symm.mem hy)
/-- One step of symmetric merging: the inner blocks change places, then either half is sorted by itself. -/
theorem merge_step {a1 a2 b1 b2 p q : List α} (ha : SortK K (a1 ++ a2)) (hb : SortK K (b1 ++ b2)) (h1 : LeK K a1 b2) (h2 : LtK K b1 a2) (hp : SameK K (a1 ++ b1) p) (hq : SameK K (a2 ++ b2) q) (sp : SortK K p) (sq : SortK K q) :
    SortK K (p ++ q) ∧ SameK K (a1 ++ a2 ++ (b1 ++ b2)) (p ++ q) := by
  have hle : LeK K (a1 ++ b1) (a2 ++ b2) := fun x hx y hy => by
    rcases List.mem_append.1 hx with hx | hx
    · rcases List.mem_append.1 hy with hy | hy
      · exact LeK.of ha x hx y hy
      · exact h1 x hx y hy
    · rcases List.mem_append.1 hy with hy | hy
      · have := h2 x hx y hy; omega
      · exact LeK.of hb x hx y hy
  refine ⟨sp.app sq (hle.same hp hq), ?_⟩
  have e : SameK K (a1 ++ a2 ++ (b1 ++ b2)) ((a1 ++ b1) ++ (a2 ++ b2)) := by
    have hs := SameK.swap h2
    have := ((SameK.refl (K := K) a1).app hs).app (SameK.refl (K := K) b2)
    simpa [List.append_assoc] using this
  exact e.trans (hp.app hq)
/-- An element is put into a sorted run: behind those that are not larger. -/
theorem insert_step {x : α} (ha : SortK K (a ++ b)) (h1 : ∀ y ∈ a, K y ≤ K x) (h2 : ∀ y ∈ b, K x < K y) : SortK K (a ++ [x] ++ b) ∧ SameK K (a ++ b ++ [x]) (a ++ [x] ++ b) := by
  refine ⟨?_, ?_⟩
  · refine SortK.app (SortK.app ha.left (List.pairwise_singleton _ _) fun y hy z hz => ?_) ha.right fun y hy z hz => ?_
    · rw [List.mem_singleton.1 hz]; exact h1 y hy
    · rcases List.mem_append.1 hy with hy | hy
      · exact LeK.of ha y hy z hz
      · rw [List.mem_singleton.1 hy]; exact Int.le_of_lt (h2 z hz)
  · have hs : SameK K (b ++ [x]) ([x] ++ b) := SameK.swap fun y hy z hz => by rw [List.mem_singleton.1 hy]; exact h2 z hz
    have := (SameK.refl (K := K) a).app hs
    simpa [List.append_assoc] using this
/-- An element is put ahead of those that are not smaller. -/
theorem insert_first {x : α} (hb : SortK K (a ++ b)) (h1 : ∀ y ∈ a, K y < K x) (h2 : ∀ y ∈ b, K x ≤ K y) : SortK K (a ++ [x] ++ b) ∧ SameK K ([x] ++ (a ++ b)) (a ++ [x] ++ b) := by
  refine ⟨?_, ?_⟩
  · refine SortK.app (SortK.app hb.left (List.pairwise_singleton _ _) fun y hy z hz => ?_) hb.right fun y hy z hz => ?_
    · rw [List.mem_singleton.1 hz]; exact Int.le_of_lt (h1 y hy)
    · rcases List.mem_append.1 hy with hy | hy
      · exact LeK.of hb y hy z hz
      · rw [List.mem_singleton.1 hy]; exact h2 z hz
  · have hs : SameK K ([x] ++ a) (a ++ [x]) := SameK.swap fun y hy z hz => by rw [List.mem_singleton.1 hz]; exact h1 y hy
    have := hs.app (SameK.refl (K := K) b)
    simpa [List.append_assoc] using this
end
end Go.Proofs.Ytkdcpdbgdijbnaa
