/- What is proved: what a tick does to a world, in plain terms, and that a valid world stays valid.
   Conditions: none beyond those that each lemma names. -/
import Derived.Test.YtmkpgcahmbancaaV8
namespace Go.Proofs.Ytmkpgcahmbancaa
set_option linter.unusedSimpArgs false
set_option linter.unusedVariables false
theorem getDset {α : Type} [Inhabited α] {xs : List α} {i j : Nat} {y : α} (h : i < xs.length) : (xs.set i y).getD j default = if i = j then y else xs.getD j default := by
  rw [List.getD_eq_getElem?_getD, List.getElem?_set]
  split
  · rename_i e
    subst e
    simp [h]
  · simp [List.getD_eq_getElem?_getD]
theorem getD_app {α : Type} [Inhabited α] {xs ys : List α} {j : Nat} : (xs ++ ys).getD j default = if j < xs.length then xs.getD j default else ys.getD (j - xs.length) default := by
  split
  · rename_i h
    rw [List.getD_eq_getElem?_getD, List.getD_eq_getElem?_getD, List.getElem?_append_left h]
  · rename_i h
    rw [List.getD_eq_getElem?_getD, List.getD_eq_getElem?_getD, List.getElem?_append_right (by omega)]
theorem getD_mem_ {α : Type} [Inhabited α] {xs : List α} {k : Nat} (h : k < xs.length) : xs.getD k default ∈ xs := by
  rw [List.getD_eq_getElem?_getD, List.getElem?_eq_getElem h]
  exact List.getElem_mem h
theorem take_snoc_ {α : Type} [Inhabited α] {xs : List α} {k : Nat} (h : k < xs.length) : xs.take (k + 1) = xs.take k ++ [xs.getD k default] := by
  rw [List.take_succ_eq_append_getElem h, List.getD_eq_getElem?_getD, List.getElem?_eq_getElem h]
  rfl
/-- Some bodies of players, in their order. -/
structure PsOk (l : Lv) (n : Nat) (ps : List Bd) : Prop where
  len : ps.length = n
  ok : ∀ k, k < n → BodyP l n (ps.getD k default)
  kind : ∀ k, k < n → (ps.getD k default).kind = 0
  owner : ∀ k, k < n → (ps.getD k default).owner = k
/-- Some other bodies. -/
structure RsOk (l : Lv) (n : Nat) (rs : List Bd) : Prop where
  ok : ∀ b ∈ rs, BodyP l n b
  kind : ∀ b ∈ rs, b.kind ≠ 0
section
variable {l : Lv} {n : Nat} {ps rs : List Bd}
theorem PsOk.set (h : PsOk l n ps) {k : Nat} {b : Bd} (hk : k < n) (hb : BodyP l n b) (h0 : b.kind = 0) (ho : b.owner = k) : PsOk l n (ps.set k b) := by
  have hlt : k < ps.length := by rw [h.len]; exact hk
  refine ⟨by rw [List.length_set, h.len], fun j hj => ?_, fun j hj => ?_, fun j hj => ?_⟩
  all_goals
    rw [getDset hlt]
    split
  · exact hb
  · exact h.ok j hj
  · exact h0
  · exact h.kind j hj
  · rename_i e; rw [← e]; exact ho
  · exact h.owner j hj
theorem RsOk.nil : RsOk l n [] := ⟨fun b hb => (by cases hb), fun b hb => (by cases hb)⟩
theorem RsOk.push (h : RsOk l n rs) {b : Bd} (hb : BodyP l n b) (h0 : b.kind ≠ 0) : RsOk l n (rs ++ [b]) := by
  refine ⟨fun c hc => ?_, fun c hc => ?_⟩
  all_goals rcases List.mem_append.1 hc with hc | hc
  · exact h.ok c hc
  · rw [List.mem_singleton.1 hc]; exact hb
  · exact h.kind c hc
  · rw [List.mem_singleton.1 hc]; exact h0
theorem RsOk.at (h : RsOk l n rs) {k : Nat} (hk : k < rs.length) : BodyP l n (rs.getD k default) ∧ (rs.getD k default).kind ≠ 0 := ⟨h.ok _ (getD_mem_ hk), h.kind _ (getD_mem_ hk)⟩
/-- The parts of a valid world. -/
theorem world_split {w : Wd} (h : WorldP w) : PsOk w.level w.scores.length (w.bodies.take w.scores.length) ∧ RsOk w.level w.scores.length (w.bodies.drop w.scores.length) := by
  have hm := h.m
  have hg : ∀ k, k < w.scores.length → (w.bodies.take w.scores.length).getD k default = w.bodies.getD k default := fun k hk => by
    rw [List.getD_eq_getElem?_getD, List.getD_eq_getElem?_getD, List.getElem?_take, if_pos hk]
  refine ⟨⟨by rw [List.length_take]; omega, fun k hk => ?_, fun k hk => ?_, fun k hk => ?_⟩, ⟨fun b hb => ?_, fun b hb => ?_⟩⟩
  · rw [hg k hk]; exact h.bodies k (by omega)
  · rw [hg k hk]; exact (h.players k hk).1
  · rw [hg k hk]; exact (h.players k hk).2
  all_goals
    obtain ⟨k, hk, rfl⟩ := List.getElem_of_mem hb
    have hk' : w.scores.length + k < w.bodies.length := by rw [List.length_drop] at hk; omega
    have e : (w.bodies.drop w.scores.length)[k] = w.bodies.getD (w.scores.length + k) default := by
      rw [List.getElem_drop, List.getD_eq_getElem?_getD, List.getElem?_eq_getElem hk']
      rfl
    rw [e]
  · exact h.bodies _ hk'
  · exact h.others _ (by omega) hk'
theorem world_join {t s : Int} {sc : List Int} (hl : LevelP l) (ht : 0 ≤ t ∧ t ≤ 100000) (hs : 0 ≤ s ∧ s ≤ 65535) (hn : 1 ≤ sc.length ∧ sc.length ≤ 4) (hsc : ∀ k, k < sc.length → 0 ≤ sc.getD k default ∧ sc.getD k default ≤ 1000000) (hp : PsOk l sc.length ps) (hr : RsOk l sc.length rs) (hm : ps.length + rs.length ≤ 24) : WorldP ⟨l, t, s, sc, ps ++ rs⟩ := by
  have hlen := hp.len
  refine ⟨hl, ht, hs, hn, hsc, ?_, fun k hk => ?_, fun k hk => ?_, fun k h1 h2 => ?_⟩
  · show sc.length ≤ (ps ++ rs).length ∧ (ps ++ rs).length ≤ 24
    rw [List.length_append]; omega
  · show BodyP l sc.length ((ps ++ rs).getD k default)
    have hk' : k < (ps ++ rs).length := hk
    rw [List.length_append] at hk'
    rw [getD_app]
    split
    · exact hp.ok k (by omega)
    · exact (hr.at (by omega)).1
  · show ((ps ++ rs).getD k default).kind = 0 ∧ ((ps ++ rs).getD k default).owner = k
    have hk' : k < sc.length := hk
    rw [getD_app, if_pos (by omega)]
    exact ⟨hp.kind k hk', hp.owner k hk'⟩
  · show ((ps ++ rs).getD k default).kind ≠ 0
    have h1' : sc.length ≤ k := h1
    have h2' : k < (ps ++ rs).length := h2
    rw [List.length_append] at h2'
    rw [getD_app, if_neg (by omega)]
    exact (hr.at (by omega)).2
end

/-! ### What players do -/
noncomputable def plOne (l : Lv) (k : Nat) (i : Int) (s : List Bd × List Bd) : List Bd × List Bd :=
  if (s.1.getD k default).life = 0 then (s.1.set k (if (s.1.getD k default).timer - 1 = 0 then freshV l k else { s.1.getD k default with timer := (s.1.getD k default).timer - 1 }), s.2)
  else if (steerV l (s.1.getD k default) i).2 = true ∧ s.1.length + s.2.length < 24 then (s.1.set k (steerV l (s.1.getD k default) i).1, s.2 ++ [shotV (steerV l (s.1.getD k default) i).1])
  else (s.1.set k (steerV l (s.1.getD k default) i).1, s.2)
noncomputable def plTo (l : Lv) (row : List Int) (s : List Bd × List Bd) : Nat → List Bd × List Bd
  | 0 => s
  | k + 1 => plOne l k (row.getD k default) (plTo l row s k)
theorem plOne_ok {l : Lv} {n k : Nat} {i : Int} {s : List Bd × List Bd} (hl : LevelP l) (hn : n ≤ 4) (hk : k < n) (hp : PsOk l n s.1) (hr : RsOk l n s.2) (hm : s.1.length + s.2.length ≤ 24) :
    PsOk l n (plOne l k i s).1 ∧ RsOk l n (plOne l k i s).2 ∧ (plOne l k i s).1.length + (plOne l k i s).2.length ≤ 24 ∧ ∀ j, k < j → (plOne l k i s).1.getD j default = s.1.getD j default := by
  have hb := hp.ok k hk
  have hb0 := hp.kind k hk
  have hbo := hp.owner k hk
  have hlt : k < s.1.length := by rw [hp.len]; exact hk
  have hset : ∀ (b : Bd) j, k < j → (s.1.set k b).getD j default = s.1.getD j default := fun b j hj => by rw [getDset hlt, if_neg (by omega)]
  have hsl : ∀ b : Bd, (s.1.set k b).length = s.1.length := fun b => List.length_set
  unfold plOne
  by_cases h0 : (s.1.getD k default).life = 0
  · rw [if_pos h0]
    have ht : 1 ≤ (s.1.getD k default).timer ∧ (s.1.getD k default).timer ≤ 20 := by rcases hb.timer with e | e | e | e <;> omega
    refine ⟨?_, hr, by rw [hsl]; exact hm, hset _⟩
    split
    · exact hp.set hk (fresh_ok hl (by omega) (by omega) (by omega)) rfl rfl
    · rename_i h1
      exact hp.set hk ⟨hb.kind, hb.owner, hb.free, hb.vx, hb.vy, hb.aim, hb.life, .inl ⟨hb0, h0, by show 1 ≤ _ - 1; omega, by show _ - 1 ≤ _; omega⟩⟩ hb0 hbo
  · rw [if_neg h0]
    have hlife : 1 ≤ (s.1.getD k default).life := by rcases hb.life with e | e <;> omega
    obtain ⟨q1, q2, q3, q4, q5, q6, q7⟩ := steer_ok (i := i) hb hb0 hlife
    split
    · rename_i h1
      obtain ⟨r1, r2⟩ := shot_ok hl q1 q2
      refine ⟨hp.set hk q1 q2 (q3.trans hbo), hr.push r1 (by rw [r2]; decide), ?_, hset _⟩
      show (s.1.set k _).length + (s.2 ++ [_]).length ≤ 24
      rw [hsl, List.length_append]
      have := h1.2
      simp
      omega
    · exact ⟨hp.set hk q1 q2 (q3.trans hbo), hr, by show (s.1.set k _).length + _ ≤ 24; rw [hsl]; exact hm, hset _⟩
theorem plTo_ok {l : Lv} {n : Nat} {row : List Int} {s : List Bd × List Bd} (hl : LevelP l) (hn : n ≤ 4) (hp : PsOk l n s.1) (hr : RsOk l n s.2) (hm : s.1.length + s.2.length ≤ 24) : ∀ k, k ≤ n →
    PsOk l n (plTo l row s k).1 ∧ RsOk l n (plTo l row s k).2 ∧ (plTo l row s k).1.length + (plTo l row s k).2.length ≤ 24 ∧ ∀ j, k ≤ j → (plTo l row s k).1.getD j default = s.1.getD j default
  | 0, _ => ⟨hp, hr, hm, fun _ _ => rfl⟩
  | k + 1, hk => by
    obtain ⟨h1, h2, h3, h4⟩ := plTo_ok hl hn hp hr hm (row := row) k (by omega)
    obtain ⟨g1, g2, g3, g4⟩ := plOne_ok (i := row.getD k default) hl hn (by omega : k < n) h1 h2 h3
    exact ⟨g1, g2, g3, fun j hj => (g4 j (by omega)).trans (h4 j (by omega))⟩

/-! ### What moves -/
noncomputable def mvOne (l : Lv) (b : Bd) : Option Bd :=
  if b.kind = 0 ∧ 0 < b.life then some (moveV l b).1
  else if b.kind = 1 then (if (moveV l b).2 = true ∨ b.timer - 1 = 0 then none else some { (moveV l b).1 with timer := b.timer - 1 })
  else some b
noncomputable def mvPl (l : Lv) (b : Bd) : Bd := if 0 < b.life then (moveV l b).1 else b
theorem mv_ok {l : Lv} {n : Int} {b : Bd} (h : BodyP l n b) : BodyP l n (moveV l b).1 := by
  obtain ⟨h1, h2, h3, h4, h5, h6, h7⟩ := moveV_rest l b
  have hf := moveV_free h.free
  have hv := h.vx; have hw := h.vy
  refine ⟨by rw [h1]; exact h.kind, by rw [h2]; exact h.owner, by rw [h1]; exact hf, ?_, ?_, by rw [h1, h3]; exact h.aim, by rw [h1, h4]; exact h.life, by rw [h1, h2, h4, h5]; exact h.timer⟩
  · rcases h6 with e | e <;> rw [e] <;> omega
  · rcases h7 with e | e <;> rw [e] <;> omega
theorem mvOne_pl {l : Lv} {b : Bd} (h : b.kind = 0) : mvOne l b = some (mvPl l b) := by
  unfold mvOne mvPl
  by_cases h1 : 0 < b.life
  · rw [if_pos ⟨h, h1⟩, if_pos h1]
  · rw [if_neg (fun e => h1 e.2), if_neg (by omega), if_neg h1]
theorem mvPl_ok {l : Lv} {n : Int} {b : Bd} (h : BodyP l n b) : BodyP l n (mvPl l b) ∧ (mvPl l b).kind = b.kind ∧ (mvPl l b).owner = b.owner := by
  unfold mvPl
  split
  · exact ⟨mv_ok h, (moveV_rest l b).1, (moveV_rest l b).2.1⟩
  · exact ⟨h, rfl, rfl⟩
theorem mvOne_ok {l : Lv} {n : Int} {b c : Bd} (h : BodyP l n b) (h0 : b.kind ≠ 0) (hc : mvOne l b = some c) : BodyP l n c ∧ c.kind ≠ 0 := by
  unfold mvOne at hc
  rw [if_neg (fun e => h0 e.1)] at hc
  split at hc
  · rename_i h1
    split at hc
    · cases hc
    · rename_i h2
      cases hc
      have hm := mv_ok h
      obtain ⟨g1, g2, g3, g4, g5, g6, g7⟩ := moveV_rest l b
      have ht : 1 ≤ b.timer ∧ b.timer ≤ 25 := by rcases h.timer with e | e | e | e <;> omega
      have ht2 : b.timer - 1 ≠ 0 := fun e => h2 (.inr e)
      exact ⟨⟨hm.kind, hm.owner, hm.free, hm.vx, hm.vy, hm.aim, hm.life, .inr (.inr (.inl ⟨g1.trans h1, by show 1 ≤ b.timer - 1; omega, by show b.timer - 1 ≤ 25; omega⟩))⟩, by show (moveV l b).1.kind ≠ 0; rw [g1]; exact h0⟩
  · cases hc
    exact ⟨h, h0⟩
theorem mv_list {l : Lv} {n : Nat} {ps rs : List Bd} (hp : PsOk l n ps) (hr : RsOk l n rs) :
    (ps ++ rs).filterMap (mvOne l) = ps.map (mvPl l) ++ rs.filterMap (mvOne l) ∧ PsOk l n (ps.map (mvPl l)) ∧ RsOk l n (rs.filterMap (mvOne l)) ∧ (rs.filterMap (mvOne l)).length ≤ rs.length := by
  have hk : ∀ b ∈ ps, b.kind = 0 := fun b hb => by
    obtain ⟨k, hk, rfl⟩ := List.getElem_of_mem hb
    have := hp.kind k (by rw [← hp.len]; exact hk)
    rwa [List.getD_eq_getElem?_getD, List.getElem?_eq_getElem hk] at this
  have hg : ∀ k, k < n → (ps.map (mvPl l)).getD k default = mvPl l (ps.getD k default) := fun k hk => by
    have : k < ps.length := by rw [hp.len]; exact hk
    rw [List.getD_eq_getElem?_getD, List.getD_eq_getElem?_getD, List.getElem?_map, List.getElem?_eq_getElem this]
    rfl
  refine ⟨?_, ⟨by rw [List.length_map, hp.len], fun k h => ?_, fun k h => ?_, fun k h => ?_⟩, ⟨fun c hc => ?_, fun c hc => ?_⟩, List.length_filterMap_le _ _⟩
  · rw [List.filterMap_append]
    congr 1
    have : ∀ (xs : List Bd), (∀ b ∈ xs, b.kind = 0) → xs.filterMap (mvOne l) = xs.map (mvPl l) := by
      intro xs
      induction xs with
      | nil => intro _; rfl
      | cons b r ih =>
        intro h
        rw [List.filterMap_cons, mvOne_pl (h b (List.mem_cons_self ..)), List.map_cons, ih fun c hc => h c (List.mem_cons_of_mem _ hc)]
    exact this ps hk
  · rw [hg k h]; exact (mvPl_ok (hp.ok k h)).1
  · rw [hg k h, (mvPl_ok (hp.ok k h)).2.1]; exact hp.kind k h
  · rw [hg k h, (mvPl_ok (hp.ok k h)).2.2]; exact hp.owner k h
  · obtain ⟨b, hb, e⟩ := List.mem_filterMap.1 hc
    exact (mvOne_ok (hr.ok b hb) (hr.kind b hb) e).1
  · obtain ⟨b, hb, e⟩ := List.mem_filterMap.1 hc
    exact (mvOne_ok (hr.ok b hb) (hr.kind b hb) e).2

/-! ### What shots and items meet -/
def metAt (ps : List Bd) (b : Bd) (o : Int) (k : Nat) : Prop := (k : Int) ≠ o ∧ 0 < (ps.getD k default).life ∧ meetV (ps.getD k default) b = true
instance (ps : List Bd) (b : Bd) (o : Int) (k : Nat) : Decidable (metAt ps b o k) := by unfold metAt; infer_instance
def metGo (ps : List Bd) (b : Bd) (o : Int) : Nat → Nat → Int
  | 0, _ => -1
  | n + 1, k => if metAt ps b o k then k else metGo ps b o n (k + 1)
def metV (ps : List Bd) (b : Bd) (o : Int) : Int := metGo ps b o ps.length 0
theorem metGo_in {ps : List Bd} {b : Bd} {o : Int} : ∀ (n k : Nat), metGo ps b o n k = -1 ∨ ((k : Int) ≤ metGo ps b o n k ∧ metGo ps b o n k < (k : Int) + n ∧ metAt ps b o (metGo ps b o n k).toNat)
  | 0, _ => .inl rfl
  | n + 1, k => by
    unfold metGo
    split
    · rename_i h
      exact .inr ⟨Int.le_refl _, by omega, by rwa [Int.toNat_natCast]⟩
    · rcases metGo_in n (k + 1) with h | ⟨h1, h2, h3⟩
      · exact .inl h
      · exact .inr ⟨by omega, by omega, h3⟩
theorem metV_in (ps : List Bd) (b : Bd) (o : Int) : metV ps b o = -1 ∨ ∃ k : Nat, metV ps b o = k ∧ k < ps.length ∧ 0 < (ps.getD k default).life := by
  rcases metGo_in (ps := ps) (b := b) (o := o) ps.length 0 with h | ⟨h1, h2, h3⟩
  · exact .inl h
  · refine .inr ⟨(metV ps b o).toNat, ?_, ?_, h3.2.1⟩
    · unfold metV; omega
    · unfold metV; omega
theorem metGo_next {ps : List Bd} {b : Bd} {o : Int} {k : Nat} (hk : k < ps.length) (h : ¬ metAt ps b o k) : metGo ps b o (ps.length - k) k = metGo ps b o (ps.length - (k + 1)) (k + 1) := by
  obtain ⟨n, hn⟩ : ∃ n, ps.length - k = n + 1 := ⟨ps.length - k - 1, by omega⟩
  rw [hn, show ps.length - (k + 1) = n by omega, metGo, if_neg h]
theorem metGo_stop {ps : List Bd} {b : Bd} {o : Int} {k : Nat} (hk : k < ps.length) (h : metAt ps b o k) : metGo ps b o (ps.length - k) k = k := by
  obtain ⟨n, hn⟩ : ∃ n, ps.length - k = n + 1 := ⟨ps.length - k - 1, by omega⟩
  rw [hn, metGo, if_pos h]
theorem metGo_end {ps : List Bd} {b : Bd} {o : Int} : metGo ps b o (ps.length - ps.length) ps.length = -1 := by
  rw [Nat.sub_self]; rfl
def hitV (b : Bd) : Bd := if b.life - 1 = 0 then { b with life := 0, vx := 0, vy := 0, timer := 20 } else { b with life := b.life - 1 }
def pointV (sc : List Int) (k : Nat) : List Int := if sc.getD k default < 1000000 then sc.set k (sc.getD k default + 1) else sc
def ScOk (n : Nat) (sc : List Int) : Prop := sc.length = n ∧ ∀ k, k < n → 0 ≤ sc.getD k default ∧ sc.getD k default ≤ 1000000
theorem pointV_ok {n : Nat} {sc : List Int} {k : Nat} (h : ScOk n sc) : ScOk n (pointV sc k) := by
  unfold pointV
  split
  · rename_i hlt
    refine ⟨by rw [List.length_set, h.1], fun j hj => ?_⟩
    by_cases hk : k < sc.length
    · rw [getDset hk]
      split
      · rename_i e
        subst e
        have := h.2 k hj
        omega
      · exact h.2 j hj
    · rw [List.set_eq_of_length_le (by omega)]
      exact h.2 j hj
  · exact h
theorem hit_ok {l : Lv} {n : Int} {b : Bd} (h : BodyP l n b) (h0 : b.kind = 0) (hl : 0 < b.life) : BodyP l n (hitV b) ∧ (hitV b).kind = 0 ∧ (hitV b).owner = b.owner := by
  have h3 : b.life ≤ 3 := by rcases h.life with e | e <;> omega
  have ht : 0 ≤ b.timer ∧ b.timer ≤ 12 := by rcases h.timer with e | e | e | e <;> omega
  unfold hitV
  split
  · exact ⟨⟨h.kind, h.owner, h.free, by show -15 ≤ (0 : Int) ∧ (0 : Int) ≤ 15; omega, by show -15 ≤ (0 : Int) ∧ (0 : Int) ≤ 15; omega, h.aim, .inl ⟨h0, by show (0 : Int) ≤ 0; omega, by show (0 : Int) ≤ 3; omega⟩, .inl ⟨h0, rfl, by show (1 : Int) ≤ 20; omega, by show (20 : Int) ≤ 20; omega⟩⟩, h0, rfl⟩
  · exact ⟨⟨h.kind, h.owner, h.free, h.vx, h.vy, h.aim, .inl ⟨h0, by show (0 : Int) ≤ b.life - 1; omega, by show b.life - 1 ≤ 3; omega⟩, .inr (.inl ⟨h0, by show b.life - 1 ≠ 0; omega, ht.1, ht.2⟩)⟩, h0, rfl⟩
/-- Players, scores, what is left. -/
structure Hs where
  ps : List Bd
  sc : List Int
  left : List Bd
def shOne (s : Hs) (b : Bd) : Hs :=
  if b.kind ≠ 1 then { s with left := s.left ++ [b] }
  else if metV s.ps b b.owner < 0 then { s with left := s.left ++ [b] }
  else { s with ps := s.ps.set (metV s.ps b b.owner).toNat (hitV (s.ps.getD (metV s.ps b b.owner).toNat default)), sc := if (s.ps.getD (metV s.ps b b.owner).toNat default).life - 1 = 0 then pointV s.sc b.owner.toNat else s.sc }
def itOne (s : Hs) (b : Bd) : Hs :=
  if b.kind = 2 ∧ 0 ≤ metV s.ps b (-1) then { s with sc := pointV s.sc (metV s.ps b (-1)).toNat } else { s with left := s.left ++ [b] }
structure HsOk (l : Lv) (n : Nat) (s : Hs) : Prop where
  ps : PsOk l n s.ps
  sc : ScOk n s.sc
  rs : RsOk l n s.left
theorem shOne_ok {l : Lv} {n : Nat} {s : Hs} {b : Bd} (h : HsOk l n s) (hb : BodyP l n b) (h0 : b.kind ≠ 0) : HsOk l n (shOne s b) := by
  unfold shOne
  split
  · exact ⟨h.ps, h.sc, h.rs.push hb h0⟩
  · split
    · exact ⟨h.ps, h.sc, h.rs.push hb h0⟩
    · rename_i h2
      rcases metV_in s.ps b b.owner with e | ⟨k, e, hk, hl⟩
      · omega
      · rw [e, Int.toNat_natCast]
        have hk' : k < n := by rw [← h.ps.len]; exact hk
        obtain ⟨q1, q2, q3⟩ := hit_ok (h.ps.ok k hk') (h.ps.kind k hk') hl
        refine ⟨h.ps.set hk' q1 q2 (q3.trans (h.ps.owner k hk')), ?_, h.rs⟩
        show ScOk n (if _ then _ else _)
        split
        · exact pointV_ok h.sc
        · exact h.sc
theorem itOne_ok {l : Lv} {n : Nat} {s : Hs} {b : Bd} (h : HsOk l n s) (hb : BodyP l n b) (h0 : b.kind ≠ 0) : HsOk l n (itOne s b) := by
  unfold itOne
  split
  · exact ⟨h.ps, pointV_ok h.sc, h.rs⟩
  · exact ⟨h.ps, h.sc, h.rs.push hb h0⟩
def shAll (s : Hs) (rs : List Bd) : Hs := rs.foldl shOne s
def itAll (s : Hs) (rs : List Bd) : Hs := rs.foldl itOne s
theorem shOne_len (s : Hs) (b : Bd) : (shOne s b).left.length ≤ s.left.length + 1 := by
  unfold shOne; split
  · simp
  · split
    · simp
    · show s.left.length ≤ _; omega
theorem itOne_len (s : Hs) (b : Bd) : (itOne s b).left.length ≤ s.left.length + 1 := by
  unfold itOne; split
  · show s.left.length ≤ _; omega
  · simp
theorem shAll_ok {l : Lv} {n : Nat} : ∀ {rs : List Bd} {s : Hs}, HsOk l n s → RsOk l n rs → HsOk l n (shAll s rs) ∧ (shAll s rs).left.length ≤ s.left.length + rs.length
  | [], s, h, _ => ⟨h, Nat.le_refl _⟩
  | b :: r, s, h, hr => by
    have h1 := shAll_ok (rs := r) (shOne_ok h (hr.ok b (List.mem_cons_self ..)) (hr.kind b (List.mem_cons_self ..))) ⟨fun c hc => hr.ok c (List.mem_cons_of_mem _ hc), fun c hc => hr.kind c (List.mem_cons_of_mem _ hc)⟩
    have h2 := shOne_len s b
    refine ⟨h1.1, ?_⟩
    have h3 := h1.2
    show (shAll (shOne s b) r).left.length ≤ s.left.length + (r.length + 1)
    omega
theorem itAll_ok {l : Lv} {n : Nat} : ∀ {rs : List Bd} {s : Hs}, HsOk l n s → RsOk l n rs → HsOk l n (itAll s rs) ∧ (itAll s rs).left.length ≤ s.left.length + rs.length
  | [], s, h, _ => ⟨h, Nat.le_refl _⟩
  | b :: r, s, h, hr => by
    have h1 := itAll_ok (rs := r) (itOne_ok h (hr.ok b (List.mem_cons_self ..)) (hr.kind b (List.mem_cons_self ..))) ⟨fun c hc => hr.ok c (List.mem_cons_of_mem _ hc), fun c hc => hr.kind c (List.mem_cons_of_mem _ hc)⟩
    have h2 := itOne_len s b
    refine ⟨h1.1, ?_⟩
    have h3 := h1.2
    show (itAll (itOne s b) r).left.length ≤ s.left.length + (r.length + 1)
    omega
theorem shAll_take {s : Hs} {rs : List Bd} {k : Nat} (hk : k < rs.length) : shAll s (rs.take (k + 1)) = shOne (shAll s (rs.take k)) (rs.getD k default) := by
  rw [take_snoc_ hk, shAll, List.foldl_append]; rfl
theorem itAll_take {s : Hs} {rs : List Bd} {k : Nat} (hk : k < rs.length) : itAll s (rs.take (k + 1)) = itOne (itAll s (rs.take k)) (rs.getD k default) := by
  rw [take_snoc_ hk, itAll, List.foldl_append]; rfl
theorem itAll_ps : ∀ {rs : List Bd} {s : Hs}, (itAll s rs).ps = s.ps
  | [], _ => rfl
  | b :: r, s => by
    show (itAll (itOne s b) r).ps = _
    rw [itAll_ps]
    unfold itOne
    split <;> rfl

/-! ### A tick -/
def spotAt (l : Lv) (i : Int) : Int × Int := (((spotsL l).getD i.toNat default).getD 0 default, ((spotsL l).getD i.toNat default).getD 1 default)
def lies (x y : Int) (b : Bd) : Bool := decide (b.kind = 2 ∧ b.x = x ∧ b.y = y)
/-- The new item, if there is one. -/
def spawnV (l : Lv) (t s : Int) (sc : List Int) (bs : List Bd) : Wd :=
  if t % 16 ≠ 0 ∨ spotsL l = [] ∨ 24 ≤ bs.length then ⟨l, t, s, sc, bs⟩
  else if bs.any (lies (spotAt l (randomBelow s (spotsL l).length).2).1 (spotAt l (randomBelow s (spotsL l).length).2).2) = true then ⟨l, t, (randomBelow s (spotsL l).length).1, sc, bs⟩
  else ⟨l, t, (randomBelow s (spotsL l).length).1, sc, bs ++ [⟨2, 0, (spotAt l (randomBelow s (spotsL l).length).2).1, (spotAt l (randomBelow s (spotsL l).length).2).2, 0, 0, 0, 0, 0⟩]⟩
noncomputable def st1 (w : Wd) (row : List Int) : List Bd × List Bd := plTo w.level row (w.bodies.take w.scores.length, w.bodies.drop w.scores.length) w.scores.length
noncomputable def st2 (w : Wd) (row : List Int) : List Bd × List Bd := ((st1 w row).1.map (mvPl w.level), (st1 w row).2.filterMap (mvOne w.level))
noncomputable def st3 (w : Wd) (row : List Int) : Hs := shAll ⟨(st2 w row).1, w.scores, []⟩ (st2 w row).2
noncomputable def st4 (w : Wd) (row : List Int) : Hs := itAll ⟨(st3 w row).ps, (st3 w row).sc, []⟩ (st3 w row).left
noncomputable def goV (w : Wd) (row : List Int) : Wd := spawnV w.level (w.tick + 1) (nextRandom w.seed) (st4 w row).sc ((st4 w row).ps ++ (st4 w row).left)
open Classical in
noncomputable def stepV (w : Wd) (row : List Int) : Wd := if WorldP w ∧ w.tick ≠ 100000 ∧ rowOkL row w.scores.length = true then goV w row else w
theorem st1_ok {w : Wd} (row : List Int) (h : WorldP w) : PsOk w.level w.scores.length (st1 w row).1 ∧ RsOk w.level w.scores.length (st1 w row).2 ∧ (st1 w row).1.length + (st1 w row).2.length ≤ 24 := by
  obtain ⟨h1, h2⟩ := world_split h
  have hm := h.m
  obtain ⟨g1, g2, g3, _⟩ := plTo_ok (row := row) (s := (w.bodies.take w.scores.length, w.bodies.drop w.scores.length)) h.level h.n.2 h1 h2 (by show (w.bodies.take _).length + (w.bodies.drop _).length ≤ 24; rw [List.length_take, List.length_drop]; omega) w.scores.length (Nat.le_refl _)
  exact ⟨g1, g2, g3⟩
theorem st2_ok {w : Wd} (row : List Int) (h : WorldP w) : PsOk w.level w.scores.length (st2 w row).1 ∧ RsOk w.level w.scores.length (st2 w row).2 ∧ (st2 w row).1.length + (st2 w row).2.length ≤ 24 := by
  obtain ⟨h1, h2, h3⟩ := st1_ok row h
  obtain ⟨_, g2, g3, g4⟩ := mv_list h1 h2
  refine ⟨g2, g3, ?_⟩
  show ((st1 w row).1.map _).length + ((st1 w row).2.filterMap _).length ≤ 24
  rw [List.length_map]
  omega
theorem st3_ok {w : Wd} (row : List Int) (h : WorldP w) : HsOk w.level w.scores.length (st3 w row) ∧ (st3 w row).ps.length + (st3 w row).left.length ≤ 24 := by
  obtain ⟨h1, h2, h3⟩ := st2_ok row h
  obtain ⟨g1, g2⟩ := shAll_ok (s := ⟨(st2 w row).1, w.scores, []⟩) ⟨h1, ⟨rfl, h.scores⟩, RsOk.nil⟩ h2
  refine ⟨g1, ?_⟩
  have e1 := g1.ps.len
  have e2 := h1.len
  have g2' : (st3 w row).left.length ≤ 0 + (st2 w row).2.length := g2
  have e1' : (st3 w row).ps.length = w.scores.length := e1
  omega
theorem st4_ok {w : Wd} (row : List Int) (h : WorldP w) : HsOk w.level w.scores.length (st4 w row) ∧ (st4 w row).ps.length + (st4 w row).left.length ≤ 24 := by
  obtain ⟨h1, h2⟩ := st3_ok row h
  obtain ⟨g1, g2⟩ := itAll_ok (s := ⟨(st3 w row).ps, (st3 w row).sc, []⟩) ⟨h1.ps, h1.sc, RsOk.nil⟩ h1.rs
  refine ⟨g1, ?_⟩
  have e1' : (st4 w row).ps.length = w.scores.length := g1.ps.len
  have e2 := h1.ps.len
  have g2' : (st4 w row).left.length ≤ 0 + (st3 w row).left.length := g2
  omega
theorem spot_in {l : Lv} (hl : LevelP l) {s : List Int} (h : s ∈ spotsL l) : ∃ r c : Nat, s = [16 * (c : Int) + 4, 16 * (r : Int) + 4] ∧ r < l.length ∧ c < widthL l ∧ tileN l r c = 111 := by
  obtain ⟨r, hr, h⟩ := List.mem_flatMap.1 h
  obtain ⟨c, hc, h⟩ := List.mem_filterMap.1 h
  split at h
  · rename_i ht
    cases h
    exact ⟨r, c, rfl, List.mem_range.1 hr, List.mem_range.1 hc, ht⟩
  · cases h
/-- An item at its spot is valid. -/
theorem item_ok {l : Lv} {n : Nat} (hl : LevelP l) (hn : 1 ≤ n) {i : Int} (hi : i.toNat < (spotsL l).length) : BodyP l n ⟨2, 0, (spotAt l i).1, (spotAt l i).2, 0, 0, 0, 0, 0⟩ := by
  obtain ⟨r, c, e, hr, hc, ht⟩ := spot_in hl (getD_mem_ hi)
  have hx : (spotAt l i).1 = 16 * (c : Int) + 4 := by unfold spotAt; rw [e]; rfl
  have hy : (spotAt l i).2 = 16 * (r : Int) + 4 := by unfold spotAt; rw [e]; rfl
  have := hl.w20; have := hl.n12
  refine ⟨by show (0 : Int) ≤ 2 ∧ (2 : Int) ≤ 2; omega, by show (0 : Int) ≤ 0 ∧ (0 : Int) < n; omega, ?_, by show -15 ≤ (0 : Int) ∧ (0 : Int) ≤ 15; omega, by show -15 ≤ (0 : Int) ∧ (0 : Int) ≤ 15; omega, .inr ⟨by show (2 : Int) ≠ 0; omega, rfl⟩, .inr ⟨by show (2 : Int) ≠ 0; omega, rfl⟩, .inr (.inr (.inr ⟨rfl, rfl, rfl⟩))⟩
  show solidV l (spotAt l i).1 (spotAt l i).2 8 = false
  rw [hx, hy, solidV_no]
  rintro (hn | ⟨r', c', h1, h2, h3, h4, hw⟩)
  · omega
  · obtain rfl : r' = r := by omega
    obtain rfl : c' = c := by omega
    exact hw ⟨hr, by rw [hl.rows _ hr]; exact hc, by omega⟩
theorem spots_len {l : Lv} (hl : LevelP l) : (spotsL l).length ≤ 240 := by
  have h1 := spotsTo_len l l.length
  have h2 := hl.w20; have h3 := hl.n12
  have h4 : l.length * widthL l ≤ 12 * 20 := Nat.mul_le_mul h3 h2
  unfold spotsL
  omega
theorem spawn_ok {l : Lv} {t s : Int} {sc : List Int} {ps rs : List Bd} (hl : LevelP l) (ht : 0 ≤ t ∧ t ≤ 100000) (hs : 0 ≤ s ∧ s ≤ 65535) (hn : 1 ≤ sc.length ∧ sc.length ≤ 4) (hsc : ∀ k, k < sc.length → 0 ≤ sc.getD k default ∧ sc.getD k default ≤ 1000000) (hp : PsOk l sc.length ps) (hr : RsOk l sc.length rs) (hm : ps.length + rs.length ≤ 24) : WorldP (spawnV l t s sc (ps ++ rs)) := by
  have hrb := randomBelow_in s (spotsL l).length
  unfold spawnV
  split
  · exact world_join hl ht hs hn hsc hp hr hm
  · rename_i h1
    split
    · exact world_join hl ht ⟨hrb.1, hrb.2.1⟩ hn hsc hp hr hm
    · rw [List.append_assoc]
      have hne : 0 < (spotsL l).length := List.length_pos_iff.2 fun e => h1 (.inr (.inl e))
      have hlt : ps.length + rs.length < 24 := by
        have : ¬ 24 ≤ (ps ++ rs).length := fun e => h1 (.inr (.inr e))
        rw [List.length_append] at this
        omega
      refine world_join hl ht ⟨hrb.1, hrb.2.1⟩ hn hsc hp (hr.push (item_ok hl hn.1 ?_) (by show (2 : Int) ≠ 0; omega)) (by rw [List.length_append]; simp; omega)
      rcases hrb.2.2.2 with e | e <;> omega
theorem step_ok {w : Wd} {row : List Int} (h : WorldP w) : WorldP (stepV w row) := by
  unfold stepV
  split
  · rename_i hc
    obtain ⟨g1, g2⟩ := st4_ok row h
    have ht := h.tick
    have e := g1.sc.1
    unfold goV
    refine spawn_ok h.level ⟨by omega, by have := hc.2.1; omega⟩ (nextRandom_in _) ?_ ?_ ?_ ?_ g2
    · rw [e]; exact h.n
    · rw [e]; exact g1.sc.2
    · rw [e]; exact g1.ps
    · rw [e]; exact g1.rs
  · exact h
end Go.Proofs.Ytmkpgcahmbancaa
