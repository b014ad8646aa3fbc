/- What is proved: the calculus of abstract states: makeSlice; contracts out of plain calls.
   Conditions: none beyond those that each lemma names. -/
import Derived.Test.YtmkpgcahmbancaaAbsC
namespace Go.Proofs.Ytmkpgcahmbancaa.Ab
set_option linter.unusedSimpArgs false
set_option linter.unusedVariables false
open Go.RowKit

section
variable {P : Program} {B : Nat → Prop} {W : En} {o : Oper} {st : St} {KE : V → List (Nat × Nat × Ob) → Prop}
def T.cst : T → Bool
  | .int _ _ | .bool _ | .str _ | .nil => true
  | _ => false
theorem Rd.cst {w w' : World} {B B' : Nat → Prop} {x : T} {u : Value} (h : Rd P w B x u) (hf : x.cst = true) : Rd P w' B' x u := by
  cases h with
  | int h => exact .int h
  | bool => exact .bool
  | str h => exact .str h
  | nil => exact .nil
  | lst => cases hf
theorem Rd.cst_ow {w w' : World} {B F : Nat → Prop} {x : T} {u : Value} (h : Rd P w B x u) (hf : x.cst = true) (hF : ∀ b, ¬ F b) : Ow P w' x u F := by
  cases h with
  | int h => exact .flat rfl (.int h) hF
  | bool => exact .flat rfl .bool hF
  | str h => exact .flat rfl (.str h) hF
  | nil => exact .nil hF
  | lst => cases hf
theorem cv_cst {w : World} {F : Nat → Nat → Prop} {ts : List T} {us : List Value} (hp : Pw (Rd P w (Free B W.o (look st.objs) F w)) ts us) (hf : ∀ x ∈ ts, x.cst = true) (d : Bool) : Cv P B W st w F ts us [] d :=
  ⟨hp.1, fun u hu => by
    obtain ⟨k, hk, rfl⟩ := List.getElem_of_mem hu
    have hlt : k < ts.length := by rw [← hp.1]; exact hk
    exact (hp.2 k _ _ (List.getElem?_eq_getElem hlt) (List.getElem?_eq_getElem hk)).one, fun k x u hx hu => (hp.2 k x u hx hu).mono (fun b hb => .inl hb) fun _ _ => rfl,
    fun _ => ⟨fun _ _ => False, fun k x u hx hu => (hp.2 k x u hx hu).cst_ow (hf _ (List.mem_of_getElem? hx)) fun _ h => h, fun _ _ h => h.elim, fun _ _ _ _ h => h.elim⟩, fun o e h => (by cases h)⟩
def cstT : List V → Option (List T)
  | [] => some []
  | .t x :: r => match x.cst with | true => (match cstT r with | some ts => some (x :: ts) | none => none) | false => none
  | _ => none
theorem cstT_eq : ∀ {vs : List V} {ts : List T}, cstT vs = some ts → vs = ts.map .t ∧ ∀ x ∈ ts, x.cst = true
  | [], ts, h => by cases h; exact ⟨rfl, fun _ h => by cases h⟩
  | v :: r, ts, h => by
    cases v with
    | t x =>
      simp only [cstT] at h
      split at h
      · rename_i hf
        split at h
        · rename_i ts' hr
          cases h
          obtain ⟨h1, h2⟩ := cstT_eq hr
          refine ⟨by rw [h1]; rfl, fun y hy => ?_⟩
          rcases List.mem_cons.1 hy with rfl | hy
          · exact hf
          · exact h2 y hy
        · cases h
      · cases h
    | _ => cases h
theorem madeCells_at (z : Array Value) (n k : Nat) (hk : k < n) (hz : 0 < z.size) : (madeCells z n).toList[k]? = z.toList[k % z.size]? := by
  have hlt : k % z.size < z.size := Nat.mod_lt _ hz
  rw [Array.getElem?_toList, Array.getElem?_toList]
  simp [madeCells, hk, hlt]
theorem replicate_at {α : Type} (l : List α) (m k : Nat) (hk : k < m * l.length) : (List.replicate m l).flatten[k]? = l[k % l.length]? := by
  have hp : 0 < l.length := by
    rcases Nat.eq_zero_or_pos l.length with h | h
    · rw [h] at hk; simp at hk
    · exact h
  have hu : ∀ x ∈ List.replicate m l, x.length = l.length := fun x hx => by rw [List.eq_of_mem_replicate hx]
  have hi : k / l.length < m := Nat.div_lt_of_lt_mul (by rw [Nat.mul_comm]; exact hk)
  have h := flatten_at hu (i := k / l.length) (j := k % l.length) (by simpa using hi) (Nat.mod_lt _ hp)
  rw [Nat.mul_comm, Nat.div_add_mod] at h
  rw [h]
  simp [List.getD_eq_getElem?_getD, hi]
theorem OpS.makeSlice {t : TypeId} {xl xc : Operand} {kl kc : IntKind} {l c : Int} {y ye : Ty} {e es eb site ep : Nat} {zs : List V} {tz : List T} {fl : Bool} (ho : o.op = .makeSlice t xl xc) (hd : o.dst = some site) (hl : st.ev xl = .t (.int kl l)) (hc : st.ev xc = .t (.int kc c)) (hy : tinfo P t = some y) (hk : y.k = .slice e es eb) (hye : tinfo P e = some ye) (hyb : ye.bytes = eb) (hz : ye.zero = some zs) (hzt : cstT zs = some tz) (hes : Nat.beq tz.length es = true) (hpos : Nat.beq es 0 = false) (hfl : tz.all T.flat = fl)
    (hlc : 0 ≤ l ∧ l ≤ c ∧ (eb : Int) * c ≤ 281474976710656 ∧ c ≤ 9223372036854775807) (hep : nep (look st.objs site) = ep) (hK : KE (.hnd site ep) [(site, ep, .row fl true e (List.replicate l.toNat tz))]) : OpS P B W o st KE := by
  obtain ⟨ht, hes', heb⟩ := slice_t hy hk
  obtain ⟨hzv, hzf⟩ := cstT_eq hzt
  have htl : tz.length = es := Nat.eq_of_beq_eq_true hes
  have hpos : es ≠ 0 := Nat.ne_of_beq_eq_false hpos
  have hu : ∀ x ∈ List.replicate l.toNat tz, x.length = P.cellsOf e := fun x hx => by rw [List.eq_of_mem_replicate hx, hes', htl]
  refine OpS.newrow (ks := []) hep (fun x e h => by cases h) hu (fun hf x hx => ?_) hK fun a w pl F hs => ?_
  · obtain ⟨q, hq, hx⟩ := List.mem_flatten.1 hx
    rw [List.eq_of_mem_replicate hq] at hx
    rw [← hfl] at hf
    exact List.all_eq_true.1 hf x hx
  obtain ⟨de, i, hue, hi, _, hsz, hby, hzero⟩ := tinfo_parts hye
  have hsi : i.size = es := by rw [← hes']; simp [Program.cellsOf, hi]
  have hbi : i.bytes = eb := by rw [← hby, hyb]
  rw [hz] at hzero
  obtain ⟨z, hz1, hz2⟩ := Option.map_eq_some_iff.1 hzero.symm
  have hzs : z.cells.toList.length = es := by rw [← htl, ← List.length_map (as := tz) V.t, ← hzv, ← hz2]; simp
  have hzs' : z.cells.size = es := by simpa using hzs
  have hpz : Pw (Rd P w (Free B W.o (look st.objs) F w)) tz z.cells.toList := by
    refine ⟨by rw [hzs, htl], fun k x u hx hu => ?_⟩
    have h1 : (z.cells.toList.map constV)[k]? = some (V.t x) := by rw [hz2, hzv, List.getElem?_map, hx]; rfl
    rw [List.getElem?_map, hu] at h1
    have h2 : constV u = V.t x := by simpa using h1
    have h3 := constV_ok (P := P) (w := w) (lk := look st.objs) (pl := pl) (Fr := Free B W.o (look st.objs) F w) u
    rw [h2] at h3
    exact h3
  have hn : l.toNat ≤ c.toNat := by omega
  have hle : l.toNat * es ≤ c.toNat * es := Nat.mul_le_mul_right _ hn
  have htake : ((madeCells z.cells (c.toNat * i.size)).toList.take (l.toNat * es)) = (List.replicate l.toNat z.cells.toList).flatten := by
    apply List.ext_getElem?
    intro k
    rw [List.getElem?_take]
    split
    · rename_i hk
      rw [madeCells_at _ _ _ (by rw [hsi]; omega) (by omega), replicate_at _ _ _ (by rw [hzs]; exact hk), hzs, hzs']
    · rename_i hk
      symm
      rw [List.getElem?_eq_none]
      rw [flatten_len (s := es) (fun x hx => by rw [List.eq_of_mem_replicate hx, hzs])]
      simpa using hk
  refine ⟨(List.replicate l.toNat z.cells.toList).flatten, .slice (some ⟨w.heap.size, 0, none⟩) l.toNat c.toNat, w.alloc (.cells (madeCells z.cells (c.toNat * i.size)) e), ?_, below_alloc w _, ?_, fun b hb => (by cases hb; simp), ?_⟩
  · unfold execOp
    rw [ho]
    refine exec_value ?_
    rw [(hs.int_at hl).1, (hs.int_at hc).1]
    exact run_make w t e i z ht hi hz1 kl kc l c hlc.1 hlc.2.1 (by rw [hbi]; exact hlc.2.2.1) hlc.2.2.2
  · rw [List.length_replicate, hes']
    refine ⟨by rw [flatten_len (s := es) (fun x hx => by rw [List.eq_of_mem_replicate hx, hzs])]; simp, .inr ⟨w.heap.size, 0, c.toNat, _, (0, 0), rfl, heap_alloc_new w _, .inl rfl, hn, by simp only [maxLen]; omega, by rw [size_madeCells, hsi]; simp, by simpa using htake⟩⟩
  · refine cv_cst ?_ (fun x hx => ?_) true
    · refine ⟨?_, fun k x u hx hu => ?_⟩
      · rw [flatten_len (s := es) (fun x hx => by rw [List.eq_of_mem_replicate hx, hzs]), flatten_len (s := es) (fun x hx => by rw [List.eq_of_mem_replicate hx, htl])]; simp
      · have hk : k < l.toNat * es := by
          have := (List.getElem?_eq_some_iff.1 hx).1
          rw [flatten_len (s := es) (fun x hx => by rw [List.eq_of_mem_replicate hx, htl])] at this
          simpa using this
        rw [replicate_at _ _ _ (by rw [htl]; exact hk)] at hx
        rw [replicate_at _ _ _ (by rw [hzs]; exact hk), hzs, ← htl] at hu
        exact hpz.2 _ x u hx hu
    · obtain ⟨q, hq, hx⟩ := List.mem_flatten.1 hx
      rw [List.eq_of_mem_replicate hq] at hx
      exact hzf x hx
end

/-! ### Calls whose fresh results become objects -/
def isFr : V → Bool
  | .fr _ _ _ => true
  | _ => false
def isAgg : V → Bool
  | .agg _ => true
  | _ => false
inductive ImpL (lk : Nat → Option (Nat × Ob)) : Nat → List V → List V → List (Nat × Nat × Ob) → Prop
  | nil {id} : ImpL lk id [] [] []
  | fr {id fl e els ep r r' us} : nep (lk id) = ep → ImpL lk (id + 1) r r' us → ImpL lk id (.fr fl e els :: r) (.hnd id ep :: r') ((id, ep, .row fl true e els) :: us)
  | other {id v r r' us} : isFr v = false → ImpL lk (id + 1) r r' us → ImpL lk id (v :: r) (v :: r') us
inductive ImpT (lk : Nat → Option (Nat × Ob)) : Nat → List V → List V → List (Nat × Nat × Ob) → Prop
  | nil {id} : ImpT lk id [] [] []
  | agg {id cs cs' us1 r r' us} : ImpL lk id cs cs' us1 → ImpT lk (id + 64) r r' us → ImpT lk id (.agg cs :: r) (.agg cs' :: r') (us1 ++ us)
  | fr {id fl e els ep r r' us} : nep (lk id) = ep → ImpT lk (id + 64) r r' us → ImpT lk id (.fr fl e els :: r) (.hnd id ep :: r') ((id, ep, .row fl true e els) :: us)
  | other {id v r r' us} : isFr v = false → isAgg v = false → ImpT lk (id + 64) r r' us → ImpT lk id (v :: r) (v :: r') us
theorem ImpL.eq {lk : Nat → Option (Nat × Ob)} {id : Nat} {cs cs' : List V} {us : List (Nat × Nat × Ob)} (h : ImpL lk id cs cs' us) : impL false lk id cs = cs' ∧ updL false lk id cs = us := by
  induction h with
  | nil => exact ⟨rfl, rfl⟩
  | fr h1 _ ih => subst h1; exact ⟨by rw [← ih.1]; rfl, by rw [← ih.2]; rfl⟩
  | @other id v r r' us h1 _ ih =>
    have e1 : imp0 false lk id v = v := by cases v <;> first | rfl | cases h1
    have e2 : upd0 false lk id v = [] := by cases v <;> first | rfl | cases h1
    exact ⟨by show imp0 false lk id v :: _ = _; rw [e1, ih.1], by show upd0 false lk id v ++ _ = _; rw [e2, ih.2]; rfl⟩
theorem ImpT.eq {lk : Nat → Option (Nat × Ob)} {id : Nat} {cs cs' : List V} {us : List (Nat × Nat × Ob)} (h : ImpT lk id cs cs' us) : imp1L false lk id cs = cs' ∧ upd1L false lk id cs = us := by
  induction h with
  | nil => exact ⟨rfl, rfl⟩
  | @agg id cs cs' us1 r r' us h1 _ ih => exact ⟨by show V.agg (impL false lk id cs) :: _ = _; rw [h1.eq.1, ih.1], by show updL false lk id cs ++ _ = _; rw [h1.eq.2, ih.2]⟩
  | fr h1 _ ih => subst h1; exact ⟨by rw [← ih.1]; rfl, by rw [← ih.2]; rfl⟩
  | @other id v r r' us h1 h2 _ ih =>
    have e1 : imp1 false lk id v = v := by cases v <;> first | rfl | exact Bool.noConfusion (show true = false from h1) | exact Bool.noConfusion (show true = false from h2)
    have e2 : upd1 false lk id v = [] := by cases v <;> first | rfl | exact Bool.noConfusion (show true = false from h1) | exact Bool.noConfusion (show true = false from h2)
    exact ⟨by show imp1 false lk id v :: _ = _; rw [e1, ih.1], by show upd1 false lk id v ++ _ = _; rw [e2, ih.2]; rfl⟩
section
variable {P : Program} {B : Nat → Prop} {W : En} {o : Oper} {st : St} {KE : V → List (Nat × Nat × Ob) → Prop}
theorem OpS.call_fr {c : Call} {g : FuncId} {xs : List V} {d ep e : Nat} {fl : Bool} {els : List (List T)} (ho : o.op = .call c) (hd : o.dst = some d) (hc : c.callee = .value (.func g)) (hA : AC P g xs (.fr fl e els))
    (hs : SeeA (look st.objs) (c.args.toList.map st.ev) xs) (hp : (c.args.toList.map st.ev).all plain1 = true ∨ pureR (.fr fl e els) = true) (hep : nep (look st.objs (1000 * d)) = ep) (hK : KE (.hnd (1000 * d) ep) [(1000 * d, ep, .row fl true e els)]) : OpS P B W o st KE :=
  OpS.call_new ho hd hc hA hs hp.symm rfl rfl rfl (by subst hep; exact hK)
theorem OpS.call_agg {c : Call} {g : FuncId} {xs : List V} {d : Nat} {cs cs' : List V} {us : List (Nat × Nat × Ob)} (ho : o.op = .call c) (hd : o.dst = some d) (hc : c.callee = .value (.func g)) (hA : AC P g xs (.agg cs))
    (hs : SeeA (look st.objs) (c.args.toList.map st.ev) xs) (hp : (c.args.toList.map st.ev).all plain1 = true ∨ pureR (.agg cs) = true) (hsm : small2 (.agg cs) = true) (hi : ImpL (look st.objs) (1000 * d) cs cs' us) (hK : KE (.agg cs') us) : OpS P B W o st KE :=
  OpS.call_new ho hd hc hA hs hp.symm hsm (congrArg V.agg hi.eq.1) hi.eq.2 hK
theorem OpS.call_tup {c : Call} {g : FuncId} {xs : List V} {d : Nat} {cs cs' : List V} {us : List (Nat × Nat × Ob)} (ho : o.op = .call c) (hd : o.dst = some d) (hc : c.callee = .value (.func g)) (hA : AC P g xs (.tup cs))
    (hs : SeeA (look st.objs) (c.args.toList.map st.ev) xs) (hp : (c.args.toList.map st.ev).all plain1 = true ∨ pureR (.tup cs) = true) (hsm : small2 (.tup cs) = true) (hi : ImpT (look st.objs) (1000 * d) cs cs' us) (hK : KE (.tup cs') us) : OpS P B W o st KE :=
  OpS.call_new ho hd hc hA hs hp.symm hsm (congrArg V.tup hi.eq.1) hi.eq.2 hK
end

/-! ### Contracts out of plain calls -/
def V.cv : V → Option Value
  | .t (.int k n) => some (.int k n)
  | .t (.bool b) => some (.bool b)
  | .t (.str s) => some (.string (bs s))
  | _ => none
def cvL : List V → Option (List Value)
  | [] => some []
  | v :: r => match v.cv, cvL r with | some u, some us => some (u :: us) | _, _ => none
def V.cv1 : V → Option Value
  | .agg cs => match cvL cs with | some us => some (.agg us.toArray) | none => none
  | v => v.cv
def cv1L : List V → Option (List Value)
  | [] => some []
  | v :: r => match v.cv1, cv1L r with | some u, some us => some (u :: us) | _, _ => none
section
variable {P : Program} {w : World} {lk : Nat → Option (Nat × Ob)} {pl : Nat → Value} {Fr : Nat → Prop}
end
end Go.Proofs.Ytmkpgcahmbancaa.Ab
