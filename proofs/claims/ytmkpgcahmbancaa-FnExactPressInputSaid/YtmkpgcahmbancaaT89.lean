/- What is proved: contracts on the statements' own marks of rows, saves and peers.
   Conditions: none beyond those that each lemma names. -/
import Derived.Test.YtmkpgcahmbancaaT84
import Derived.Test.YtmkpgcahmbancaaT70
import Derived.Test.YtmkpgcahmbancaaT31
namespace Go.Proofs.Ytmkpgcahmbancaa
set_option linter.unusedSimpArgs false
set_option linter.unusedVariables false
open Go.RowKit Ab
theorem T89d1 {X Y : Prop} (h : Y) (r : Hld Y → X := by intro h; (apply aW.drawq; (focus exact pos_); (focus exact Checked.mixed Try.checked); (focus rfl); (focus (refine aA.to (n' := 8) rfl rfl ?_; (apply aA.cut (ls := lsN 8 127) (n := 1); (focus (intro hd1; (refine pt0_ 0 ?_ <;> refine pt0_ 1 ?_ <;> refine pt17_ 2 ?_ <;> refine pt15_ 3 ?_ <;> refine pt7_ 4 ?_ <;> refine pt0_ 5 ?_ <;> (refine pall [6] (And.intro ?_ trivial); (focus ((refine pop ?_; (refine q4ed5 (n := 20) ?_; (first | fail))) <;> ((try refine pnorm ?_); exact pto hd1))))))); (case main => (refine pt10_ 7 ?_ <;> (refine pdone ?_; exact qf2c0))))))); exact h.out) : X := r ⟨h⟩
theorem tks_len (k : Int) (ts : TS) : ((iotaTs k ts).map trackC).length = ts.length := by rw [List.length_map, iotaTs_len]
set_option maxRecDepth 20000 in
set_option maxHeartbeats 4000000 in
theorem a_l_heldTrackS (ts : TS) (k : Int) (hn : ts.length ≤ 1048576) (h0 : 0 ≤ k) (h1 : k + sumLen ts ≤ 1152921504606846976) : AC Try.prog 104 [.t (.lst false 95 ((iotaTs k ts).map trackC)), .t (.int .i64 k)] (.t (.int .i64 (k + sumLen ts))) := by
  have hl := iotaTs_len k ts
  have hl2 := tks_len k ts
  refine AC.go Try.func104 Try.ntmps104 fun B W hr => ?_
  repeat' (first | refine pa ?_ | (refine pb ?_ ?_ <;> intro hg) | refine po ?_ | fail)
  refine aW.loopF rfl (fun q : Nat × Int => [(5, .t (.int .i64 q.1)), (1, .t (.int .i64 q.2))]) [(0, _)] (fun q : Nat × Int => []) [] (fun q : Nat × Int => q.2 = k + sumLen (ts.take q.1) ∧ q.1 ≤ ts.length) (fun q : Nat × Int => ts.length - q.1) (0, k) ⟨by simp [sumLen], Nat.zero_le _⟩ (by (exact plei)) ?_
  rintro ⟨i, v⟩ hI
  obtain ⟨hv, hI⟩ : v = k + sumLen (ts.take i) ∧ i ≤ ts.length := hI
  have hle := sumLen_le ts i
  dsimp only [List.cons_append, List.nil_append]
  by_cases hin : i < ts.length
  · have hsl := sumLen_take hin
    have hle2 := sumLen_le ts (i + 1)
    have hh := a_l_heldIntS (ts.getD i default).length v (by omega) (by omega)
    rw [show iotaL v (ts.getD i default).length = (iotaTs k ts).getD i default by rw [iotaTs_at k ts i hin, hv]] at hh
    repeat' (first | refine pa ?_ | (refine pb ?_ ?_ <;> intro hg) | (refine q4ed5 (n := 20) ?_; (first | refine qeaf1 (hh) ?_)) | refine po ?_ | fail)
    exact ⟨(i + 1, v + (ts.getD i default).length), ⟨by show v + ((ts.getD i default).length : Int) = k + ((sumLen (ts.take (i + 1)) : Nat) : Int); omega, hin⟩, by show ts.length - (i + 1) < ts.length - i; omega, by (exact ple)⟩
  · obtain rfl : i = ts.length := by omega
    rw [List.take_length] at hv
    repeat' (first | refine pa ?_ | (refine pb ?_ ?_ <;> intro hg) | refine po ?_ | fail)
    refine pfin ?_
    exact .inl (congrArg (T.int .i64) hv)
set_option maxRecDepth 20000 in
set_option maxHeartbeats 4000000 in
theorem a_l_heldIntSS (ts : TS) (k : Int) (hn : ts.length ≤ 1048576) (h0 : 0 ≤ k) (h1 : k + sumLen ts ≤ 1152921504606846976) : AC Try.prog 105 [.t (.lst false 26 ((iotaTs k ts).map trackC)), .t (.int .i64 k)] (.t (.int .i64 (k + sumLen ts))) := by
  have hl := iotaTs_len k ts
  have hl2 := tks_len k ts
  refine AC.go Try.func105 Try.ntmps105 fun B W hr => ?_
  repeat' (first | refine pa ?_ | (refine pb ?_ ?_ <;> intro hg) | refine po ?_ | fail)
  refine aW.loopF rfl (fun q : Nat × Int => [(5, .t (.int .i64 q.1)), (1, .t (.int .i64 q.2))]) [(0, _)] (fun q : Nat × Int => []) [] (fun q : Nat × Int => q.2 = k + sumLen (ts.take q.1) ∧ q.1 ≤ ts.length) (fun q : Nat × Int => ts.length - q.1) (0, k) ⟨by simp [sumLen], Nat.zero_le _⟩ (by (exact plei)) ?_
  rintro ⟨i, v⟩ hI
  obtain ⟨hv, hI⟩ : v = k + sumLen (ts.take i) ∧ i ≤ ts.length := hI
  have hle := sumLen_le ts i
  dsimp only [List.cons_append, List.nil_append]
  by_cases hin : i < ts.length
  · have hsl := sumLen_take hin
    have hle2 := sumLen_le ts (i + 1)
    have hh := a_l_heldIntS (ts.getD i default).length v (by omega) (by omega)
    rw [show iotaL v (ts.getD i default).length = (iotaTs k ts).getD i default by rw [iotaTs_at k ts i hin, hv]] at hh
    repeat' (first | refine pa ?_ | (refine pb ?_ ?_ <;> intro hg) | (refine q4ed5 (n := 20) ?_; (first | refine qeaf1 (hh) ?_)) | refine po ?_ | fail)
    exact ⟨(i + 1, v + (ts.getD i default).length), ⟨by show v + ((ts.getD i default).length : Int) = k + ((sumLen (ts.take (i + 1)) : Nat) : Int); omega, hin⟩, by show ts.length - (i + 1) < ts.length - i; omega, by (exact ple)⟩
  · obtain rfl : i = ts.length := by omega
    rw [List.take_length] at hv
    repeat' (first | refine pa ?_ | (refine pb ?_ ?_ <;> intro hg) | refine po ?_ | fail)
    refine pfin ?_
    exact .inl (congrArg (T.int .i64) hv)
set_option maxRecDepth 20000 in
set_option maxHeartbeats 4000000 in
theorem a_l_markIntSS (ts : TS) (k : Int) (hn : ts.length ≤ 1048576) (h0 : 0 ≤ k) (h1 : k + sumLen ts ≤ 1152921504606846976) : AM Try.prog 102 [(0, 0, .row false true 26 (ts.map trackC))] [.hnd 0 0, .t (.int .i64 k)] [(0, 0, .row false true 26 ((iotaTs k ts).map trackC))] (.t (.int .i64 (k + sumLen ts))) := by
  refine AM.go Try.func102 Try.ntmps102 fun B W hr => ?_
  repeat' (first | refine pa ?_ | (refine pb ?_ ?_ <;> intro hg) | refine po ?_ | fail)
  refine aW.loopF rfl (fun q : Nat × Int × TS => [(5, .t (.int .i64 q.1)), (1, .t (.int .i64 q.2.1))]) [(0, _)] (fun q : Nat × Int × TS => [(0, 0, .row false true 26 (q.2.2.map trackC))]) [] (fun q : Nat × Int × TS => q.2.1 = k + sumLen (ts.take q.1) ∧ Mix k ts q.2.2 q.1) (fun q : Nat × Int × TS => ts.length - q.1) (0, k, ts) ⟨by simp [sumLen], Mix.init k ts⟩ (by (exact plei)) ?_
  rintro ⟨i, v, mix⟩ hI
  obtain ⟨hv, hI⟩ : v = k + sumLen (ts.take i) ∧ Mix k ts mix i := hI
  obtain ⟨hI1, hI2⟩ : i ≤ ts.length ∧ mix.length = ts.length := ⟨hI.le, hI.len⟩
  have hle := sumLen_le ts i
  dsimp only [List.cons_append, List.nil_append]
  by_cases hin : i < ts.length
  · have hat : mix.getD i default = ts.getD i default := hI.rest i (Nat.le_refl _) hin
    have hsl := sumLen_take hin
    have hle2 := sumLen_le ts (i + 1)
    have hm := a_l_markIntS (intsE (ts.getD i default)) (ts.getD i default).length v (intsE_len _) (intsE_uni _) (by omega) (by omega)
    have hq : (mix.map trackC).flatten[i]? = some (.lst true 3 (intsE (ts.getD i default))) := by
      rw [tracks_flat, List.getElem?_map, ← hat, List.getElem?_eq_getElem (by omega), List.getD_eq_getElem?_getD, List.getElem?_eq_getElem (by omega)]
      rfl
    refine aW.ghost (Ghost.open_ (o := 0) (j := 500) (ej := 1) (q := i) rfl hq (by decide) rfl) ?_
    dsimp only [St.upds, updl]
    repeat' (first | refine pa ?_ | (refine pb ?_ ?_ <;> intro hg) | refine pxhole ?_ | refine po ?_ | fail)
    (first | (refine q4ed5 (n := 20) ?_; (first | refine q12cd (m := [(0, _, _)]) (hm) ?_)) | refine po ?_)
    have h2 : (mix.set i (iotaL v (ts.getD i default).length)).map trackC = (mix.map trackC).set i (((mix.map trackC).getD i []).set 0 (.lst true 3 (intsE (iotaL v (ts.getD i default).length)))) := by
      rw [List.map_set, getD_map (by omega)]
      rfl
    refine aL.ghost (Ghost.close (o := 0) (j := 500) (s := 1) (c := 0) (i := i) rfl rfl (by decide) (by have h : tinfo Try.prog 26 = some _ := Try.ti rfl; exact cellsOf_t h) (by omega) (by decide) (by rw [List.length_map]; omega) h2) ?_
    repeat' (first | refine pa ?_ | (refine pb ?_ ?_ <;> intro hg) | refine po ?_ | fail)
    exact ⟨(i + 1, v + (ts.getD i default).length, mix.set i (iotaL v (ts.getD i default).length)), ⟨by show v + ((ts.getD i default).length : Int) = k + ((sumLen (ts.take (i + 1)) : Nat) : Int); omega, by rw [hv]; exact hI.step hin⟩, by show ts.length - (i + 1) < ts.length - i; omega, by (exact ple)⟩
  · have hin' : i = ts.length := by omega
    subst hin'
    have he := hI.all
    subst he
    have hv' : v = k + sumLen ts := by rw [hv, List.take_length]
    repeat' (first | refine pa ?_ | (refine pb ?_ ?_ <;> intro hg) | refine po ?_ | fail)
    (show DoneM _ _ _ _ _ _ _; refine qb0ba ?_; first | exact .inl ⟨rfl, rfl, rfl⟩ | refine .inr ⟨rfl, ?_, (by first | exact List.nodup_nil | simp [ids2, ids1, ids0]), rfl⟩)
    exact .inl (congrArg (T.int .i64) hv')
def svE (k : Int) : Sv := (k, markT (k + 1))
def iotaV (k : Int) (n : Nat) : List Sv := (List.range n).map fun i : Nat => svE (k + 2 * (i : Int))
theorem iotaV_len (k : Int) (n : Nat) : (iotaV k n).length = n := by simp [iotaV]
theorem iotaV_getD {k : Int} {n i : Nat} (h : i < n) : (iotaV k n).getD i default = svE (k + 2 * i) := by
  simp [iotaV, h]
set_option maxRecDepth 20000 in
set_option maxHeartbeats 4000000 in
theorem a_l_markSaveS (els : List (List T)) (n : Nat) (k : Int) (hn : els.length = n) (hu : ∀ x ∈ els, x.length = 2) (h0 : 0 ≤ k) (h1 : k + 2 * n ≤ 1152921504606846976) : AM Try.prog 103 [(0, 0, .row true true 92 els)] [.hnd 0 0, .t (.int .i64 k)] [(0, 0, .row true true 92 ((iotaV k n).map saveC))] (.t (.int .i64 (k+2*n))) := by
  have hl := iotaV_len k n
  refine AM.go Try.func103 Try.ntmps103 fun B W hr => ?_
  repeat' (first | refine pa ?_ | (refine pb ?_ ?_ <;> intro hg) | refine po ?_ | fail)
  refine aW.loopF rfl (fun q : Nat × Int × List (List T) => [(5, .t (.int .i64 q.1)), (1, .t (.int .i64 q.2.1))]) [(0, _)] (fun q : Nat × Int × List (List T) => [(0, 0, .row true true 92 q.2.2)]) [] (fun q : Nat × Int × List (List T) => q.2.1 = k + 2 * q.1 ∧ MapInv saveC 2 (iotaV k n) q.2.2 q.1) (fun q : Nat × Int × List (List T) => n - q.1) (0, k, els) ⟨by show k = k + 2 * ((0 : Nat) : Int); omega, Nat.zero_le _, by rw [hl]; exact hn, hu, rfl⟩ (by (exact plei)) ?_
  rintro ⟨i, v, es⟩ hI
  obtain ⟨hv, hI⟩ : v = k + 2 * i ∧ MapInv saveC 2 (iotaV k n) es i := hI
  obtain ⟨hI1, hI2⟩ : i ≤ n ∧ es.length = n := ⟨hl ▸ hI.le, hl ▸ hI.len⟩
  have hm := a_l_markText (v + 1)
  dsimp only [List.cons_append, List.nil_append]
  repeat' (first | refine pa ?_ | (refine pb ?_ ?_ <;> intro hg) | (refine q4ed5 (n := 20) ?_; (first | refine qeaf1 (hm) ?_)) | refine po ?_ | fail)
  · refine ⟨(i + 1, _, _), ⟨by show v + 1 + 1 = k + 2 * ((i + 1 : Nat) : Int); omega, ?_⟩, by show n - (i + 1) < n - i; omega, by (exact ple)⟩
    have h2 := hI.step (c := saveC (svE v)) (by omega) (by rw [iotaV_getD (by omega), hv]) rfl
    have h3 : setRange (es.getD i []) 0 (saveC (svE v)) = saveC (svE v) := by
      have h1 : (es.getD i []).length = 2 := hI.uni _ (getD_mem (by omega))
      match es.getD i [], h1 with
      | [_, _], _ => rfl
    rw [h3] at h2
    have h4 := set_two (a := .int .i64 v) (b := .str (markT (v + 1))) (by omega : i < es.length) hI.uni
    exact (congrArg (fun z => MapInv saveC 2 (iotaV k n) z (i + 1)) h4).mpr h2
  · have hk : i = n := by omega
    subst hk
    have he : es = (iotaV k i).map saveC := MapInv.all (xs := iotaV k i) (by rw [hl]; exact hI)
    subst he
    (show DoneM _ _ _ _ _ _ _; refine qb0ba ?_; first | exact .inl ⟨rfl, rfl, rfl⟩ | refine .inr ⟨rfl, ?_, (by first | exact List.nodup_nil | simp [ids2, ids1, ids0]), rfl⟩)
    exact .inl (congrArg (T.int .i64) hv)
set_option maxRecDepth 20000 in
set_option maxHeartbeats 4000000 in
theorem a_l_heldSaveS (n : Nat) (k : Int) (h0 : 0 ≤ k) (h1 : k + 2 * n ≤ 1152921504606846976) : AC Try.prog 106 [.t (.lst true 92 ((iotaV k n).map saveC)), .t (.int .i64 k)] (.t (.int .i64 (k+2*n))) := by
  have hl := iotaV_len k n
  refine AC.go Try.func106 Try.ntmps106 fun B W hr => ?_
  repeat' (first | refine pa ?_ | (refine pb ?_ ?_ <;> intro hg) | refine po ?_ | (refine T89d1 ?_) | fail)
  refine aW.loopF rfl (fun q : Nat × Int => [(5, .t (.int .i64 q.1)), (1, .t (.int .i64 q.2))]) [(0, _)] (fun q : Nat × Int => []) [] (fun q : Nat × Int => q.2 = k + 2 * q.1 ∧ q.1 ≤ n) (fun q : Nat × Int => n - q.1) (0, k) ⟨by show k = k + 2 * ((0 : Nat) : Int); omega, Nat.zero_le _⟩ (by (exact plei)) ?_
  rintro ⟨i, v⟩ hI
  obtain ⟨hv, hI⟩ : v = k + 2 * i ∧ i ≤ n := hI
  dsimp only [List.cons_append, List.nil_append]
  by_cases hin : i < n
  · have hat : (iotaV k n).getD i default = svE v := by rw [iotaV_getD hin, hv]
    have ha1 : ((iotaV k n).getD i default).1 = v := by rw [hat]; rfl
    have ha2 : ((iotaV k n).getD i default).2 = markT (v + 1) := by rw [hat]; rfl
    have hm := a_l_markText (v + 1)
    rw [← ha2] at hm
    repeat' (first | refine pa ?_ | (refine pb ?_ ?_ <;> intro hg) | (refine q4ed5 (n := 20) ?_; (first | refine qeaf1 (hm) ?_)) | refine po ?_ | ((apply aW.drawq; (focus exact pos_); (focus exact Checked.mixed Try.checked); (focus rfl); (focus (refine aA.to (n' := 8) rfl rfl ?_; (apply aA.cut (ls := lsN 8 127) (n := 1); (focus (intro hd1; (refine pt0_ 0 ?_ <;> refine pt0_ 1 ?_ <;> refine pt17_ 2 ?_ <;> refine pt15_ 3 ?_ <;> refine pt7_ 4 ?_ <;> refine pt0_ 5 ?_ <;> (refine pall [6] (And.intro ?_ trivial); (focus ((refine pop ?_; (refine q4ed5 (n := 20) ?_; (first | refine qeaf1 (hm) ?_))) <;> ((try refine pnorm ?_); exact pto hd1))))))); (case main => (refine pt10_ 7 ?_ <;> (refine pdone ?_; exact qf2c0)))))))) | fail)
    exact ⟨(i + 1, v + 1 + 1), ⟨by show v + 1 + 1 = k + 2 * ((i + 1 : Nat) : Int); omega, hin⟩, by show n - (i + 1) < n - i; omega, by (exact ple)⟩
  · repeat' (first | refine pa ?_ | (refine pb ?_ ?_ <;> intro hg) | refine po ?_ | (refine T89d1 ?_) | fail)
    refine pfin ?_
    exact .inl (congrArg (T.int .i64) (by omega))
theorem uni_strs (l : List (List UInt8)) : ∀ x ∈ strsE l, x.length = 1 := fun x hx => by obtain ⟨p, _, rfl⟩ := List.mem_map.1 hx; rfl
theorem uni_ints (l : List Int) : ∀ x ∈ intsE l, x.length = 1 := fun x hx => by obtain ⟨p, _, rfl⟩ := List.mem_map.1 hx; rfl
theorem uni_bodies (l : List Bd) : ∀ x ∈ l.map bodyC, x.length = 9 := fun x hx => by obtain ⟨p, _, rfl⟩ := List.mem_map.1 hx; rfl
theorem uni_saves (l : List Sv) : ∀ x ∈ l.map saveC, x.length = 2 := fun x hx => by obtain ⟨p, _, rfl⟩ := List.mem_map.1 hx; rfl
/-! ### Peers -/
def k2 (p : Pr) (k : Int) : Int := k + sumLen p.tracks + p.base.level.length + p.base.scores.length + 9 * p.base.bodies.length
def k3 (p : Pr) (k : Int) : Int := k2 p k + p.now.level.length + p.now.scores.length + 9 * p.now.bodies.length
def k6 (p : Pr) (k : Int) : Int := k3 p k + sumLen p.used + 2 * (p.saves.length : Int) + p.sums.length
theorem sumLen_most {ts : TS} (h : ∀ k, k < ts.length → (ts.getD k default).length ≤ 1048576) : sumLen ts ≤ 1048576 * ts.length := by
  induction ts with
  | nil => simp [sumLen]
  | cons t r ih =>
    have h0 := h 0 (by simp)
    have h1 := ih fun k hk => h (k + 1) (by simp; omega)
    rw [sumLen_cons, List.length_cons]
    have h2 : t.length ≤ 1048576 := h0
    omega
theorem PrLen.sums_ {p : Pr} (h : PrLen p) : sumLen p.tracks ≤ 1099511627776 ∧ sumLen p.used ≤ 1099511627776 := by
  have h1 := sumLen_most h.tracks.2
  have h2 := sumLen_most h.used.2
  have h3 := h.tracks.1
  have h4 := h.used.1
  omega
set_option maxRecDepth 20000 in
set_option maxHeartbeats 4000000 in
theorem a_l_markPeer (p : Pr) (h : PrLen p) (k : Int) (h0 : 0 ≤ k) (h1 : k ≤ 1048576) : AM Try.prog 38 [(0, 0, .row false true 95 (p.tracks.map trackC)), (1, 0, .row true true 9 (strsE p.base.level)), (3, 0, .row true true 3 (intsE p.base.scores)), (4, 0, .row true true 114 (p.base.bodies.map bodyC)), (5, 0, .row true true 9 (strsE p.now.level)), (6, 0, .row true true 3 (intsE p.now.scores)), (7, 0, .row true true 114 (p.now.bodies.map bodyC)), (8, 0, .row false true 26 (p.used.map trackC)), (9, 0, .row true true 92 (p.saves.map saveC)), (10, 0, .row true true 3 (intsE p.sums))]
    [.agg [.t (.int .i64 p.me), .t (.int .i64 p.delay), .t (.int .i64 p.ahead), .t (.int .i64 p.seed), .hnd 0 0, .hnd 1 0, .t (.int .i64 p.base.tick), .t (.int .i64 p.base.seed), .hnd 3 0, .hnd 4 0, .hnd 5 0, .t (.int .i64 p.now.tick), .t (.int .i64 p.now.seed), .hnd 6 0, .hnd 7 0, .hnd 8 0, .hnd 9 0, .hnd 10 0, .t (.int .i64 p.ft), .t (.int .i64 p.fp), .t (.int .i64 p.fa), .t (.int .i64 p.rolls), .t (.int .i64 p.again)], .t (.int .i64 k)]
    [(0, 0, .row false true 95 ((iotaTs k p.tracks).map trackC)), (1, 0, .row true true 9 (strsE (iotaS (k + sumLen p.tracks) p.base.level.length))), (3, 0, .row true true 3 (intsE (iotaL (k + sumLen p.tracks + p.base.level.length) p.base.scores.length))), (4, 0, .row true true 114 ((iotaB (k + sumLen p.tracks + p.base.level.length + p.base.scores.length) p.base.bodies.length).map bodyC)), (5, 0, .row true true 9 (strsE (iotaS (k2 p k) p.now.level.length))), (6, 0, .row true true 3 (intsE (iotaL (k2 p k + p.now.level.length) p.now.scores.length))), (7, 0, .row true true 114 ((iotaB (k2 p k + p.now.level.length + p.now.scores.length) p.now.bodies.length).map bodyC)), (8, 0, .row false true 26 ((iotaTs (k3 p k) p.used).map trackC)), (9, 0, .row true true 92 ((iotaV (k3 p k + sumLen p.used) p.saves.length).map saveC)), (10, 0, .row true true 3 (intsE (iotaL (k3 p k + sumLen p.used + 2 * (p.saves.length : Int)) p.sums.length)))] (.t (.int .i64 (k6 p k))) := by
  obtain ⟨s1, s2⟩ := h.sums_
  obtain ⟨b1, b2, b3⟩ := h.base
  obtain ⟨n1, n2, n3⟩ := h.now
  have hsv := h.saves
  have hsu := h.sums
  have e2 : k2 p k = k + sumLen p.tracks + p.base.level.length + p.base.scores.length + 9 * p.base.bodies.length := rfl
  have e3 : k3 p k = k2 p k + p.now.level.length + p.now.scores.length + 9 * p.now.bodies.length := rfl
  have e6 : k6 p k = k3 p k + sumLen p.used + 2 * (p.saves.length : Int) + p.sums.length := rfl
  have hm1 := a_l_markTrackS p.tracks k h.tracks.1 h0 (by omega)
  have hm2 := a_l_markWorld p.base.tick p.base.seed (strsE p.base.level) (intsE p.base.scores) (p.base.bodies.map bodyC) p.base.level.length p.base.scores.length p.base.bodies.length (k + sumLen p.tracks) (strsE_len _) (intsE_len _) (List.length_map _) (uni_strs _) (uni_ints _) (uni_bodies _) (by omega) (by omega)
  have hm3 := a_l_markWorld p.now.tick p.now.seed (strsE p.now.level) (intsE p.now.scores) (p.now.bodies.map bodyC) p.now.level.length p.now.scores.length p.now.bodies.length (k2 p k) (strsE_len _) (intsE_len _) (List.length_map _) (uni_strs _) (uni_ints _) (uni_bodies _) (by omega) (by omega)
  have hm4 := a_l_markIntSS p.used (k3 p k) h.used.1 (by omega) (by omega)
  have hm5 := a_l_markSaveS (p.saves.map saveC) p.saves.length (k3 p k + sumLen p.used) (List.length_map _) (uni_saves _) (by omega) (by omega)
  have hm6 := a_l_markIntS (intsE p.sums) p.sums.length (k3 p k + sumLen p.used + 2 * (p.saves.length : Int)) (intsE_len _) (uni_ints _) (by omega) (by omega)
  rw [← e2] at hm2
  rw [← e3] at hm3
  rw [← e6] at hm6
  refine AM.go Try.func38 Try.ntmps38 fun B W hr => ?_
  repeat' (first | refine pa ?_ | (refine pb ?_ ?_ <;> intro hg) | (refine q4ed5 (n := 20) ?_; (first | refine q12cd (m := [(0, _, _)]) (hm1) ?_ | refine q12cd (m := [(0, 1, 0), (1, 3, 0), (3, 4, 0)]) (hm2) ?_ | refine q12cd (m := [(0, 5, 0), (1, 6, 0), (3, 7, 0)]) (hm3) ?_ | refine q12cd (m := [(0, 8, 0)]) (hm4) ?_ | refine q12cd (m := [(0, 9, 0)]) (hm5) ?_ | refine q12cd (m := [(0, 10, 0)]) (hm6) ?_)) | refine po ?_ | fail)
  (show DoneM _ _ _ _ _ _ _; refine qb0ba ?_; first | exact .inl ⟨rfl, rfl, rfl⟩ | refine .inr ⟨rfl, ?_, (by first | exact List.nodup_nil | simp [ids2, ids1, ids0]), rfl⟩)
  exact .inl rfl
set_option maxRecDepth 20000 in
set_option maxHeartbeats 4000000 in
theorem a_l_heldPeer (p : Pr) (h : PrLen p) (k : Int) (h0 : 0 ≤ k) (h1 : k ≤ 1048576) : AC Try.prog 39 [.agg [.t (.int .i64 p.me), .t (.int .i64 p.delay), .t (.int .i64 p.ahead), .t (.int .i64 p.seed), .t (.lst false 95 ((iotaTs k p.tracks).map trackC)), .t (.lst true 9 (strsE (iotaS (k + sumLen p.tracks) p.base.level.length))), .t (.int .i64 p.base.tick), .t (.int .i64 p.base.seed), .t (.lst true 3 (intsE (iotaL (k + sumLen p.tracks + p.base.level.length) p.base.scores.length))), .t (.lst true 114 ((iotaB (k + sumLen p.tracks + p.base.level.length + p.base.scores.length) p.base.bodies.length).map bodyC)), .t (.lst true 9 (strsE (iotaS (k2 p k) p.now.level.length))), .t (.int .i64 p.now.tick), .t (.int .i64 p.now.seed), .t (.lst true 3 (intsE (iotaL (k2 p k + p.now.level.length) p.now.scores.length))), .t (.lst true 114 ((iotaB (k2 p k + p.now.level.length + p.now.scores.length) p.now.bodies.length).map bodyC)), .t (.lst false 26 ((iotaTs (k3 p k) p.used).map trackC)), .t (.lst true 92 ((iotaV (k3 p k + sumLen p.used) p.saves.length).map saveC)), .t (.lst true 3 (intsE (iotaL (k3 p k + sumLen p.used + 2 * (p.saves.length : Int)) p.sums.length))), .t (.int .i64 p.ft), .t (.int .i64 p.fp), .t (.int .i64 p.fa), .t (.int .i64 p.rolls), .t (.int .i64 p.again)], .t (.int .i64 k)] (.t (.int .i64 (k6 p k))) := by
  obtain ⟨s1, s2⟩ := h.sums_
  obtain ⟨b1, b2, b3⟩ := h.base
  obtain ⟨n1, n2, n3⟩ := h.now
  have hsv := h.saves
  have hsu := h.sums
  have e2 : k2 p k = k + sumLen p.tracks + p.base.level.length + p.base.scores.length + 9 * p.base.bodies.length := rfl
  have e3 : k3 p k = k2 p k + p.now.level.length + p.now.scores.length + 9 * p.now.bodies.length := rfl
  have e6 : k6 p k = k3 p k + sumLen p.used + 2 * (p.saves.length : Int) + p.sums.length := rfl
  have hm1 := a_l_heldTrackS p.tracks k h.tracks.1 h0 (by omega)
  have hm2 := a_l_heldWorld p.base.tick p.base.seed p.base.level.length p.base.scores.length p.base.bodies.length (k + sumLen p.tracks) (by omega) (by omega)
  have hm3 := a_l_heldWorld p.now.tick p.now.seed p.now.level.length p.now.scores.length p.now.bodies.length (k2 p k) (by omega) (by omega)
  have hm4 := a_l_heldIntSS p.used (k3 p k) h.used.1 (by omega) (by omega)
  have hm5 := a_l_heldSaveS p.saves.length (k3 p k + sumLen p.used) (by omega) (by omega)
  have hm6 := a_l_heldIntS p.sums.length (k3 p k + sumLen p.used + 2 * (p.saves.length : Int)) (by omega) (by omega)
  rw [← e2] at hm2
  rw [← e3] at hm3
  rw [← e6] at hm6
  refine AC.go Try.func39 Try.ntmps39 fun B W hr => ?_
  repeat' (first | refine pa ?_ | (refine pb ?_ ?_ <;> intro hg) | (refine q4ed5 (n := 20) ?_; (first | refine qeaf1 (hm1) ?_ | refine qeaf1 (hm2) ?_ | refine qeaf1 (hm3) ?_ | refine qeaf1 (hm4) ?_ | refine qeaf1 (hm5) ?_ | refine qeaf1 (hm6) ?_)) | refine po ?_ | fail)
  all_goals first | (exfalso; omega) | (refine pfin ?_; exact .inl rfl)
end Go.Proofs.Ytmkpgcahmbancaa
