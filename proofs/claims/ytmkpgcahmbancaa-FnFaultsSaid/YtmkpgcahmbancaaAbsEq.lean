/- What is proved: comparing two structs of numbers, a rule of the calculus of abstract states.
   Conditions: none beyond those that each lemma names. -/
import Derived.Test.YtmkpgcahmbancaaAbsS
import Derived.Laws.StructEq
namespace Go.Proofs.Ytmkpgcahmbancaa.Ab
set_option linter.unusedSimpArgs false
set_option linter.unusedVariables false
open Go.RowKit
/-- All fields are numbers, one cell each, from a place on. -/
def intFields (P : Program) : List Field → Nat → Bool
  | [], _ => true
  | f :: fs, k => (match P.underlying f.type with | some (.int .i64) => true | _ => false) && Nat.beq f.offset k && !(f.name == "_") && intFields P fs (k + 1)
theorem eqFields_ints {P : Program} (w : World) (d : Nat) {us vs : Array Value} : ∀ (fs : List Field) (k : Nat) (cs ds : List Int), intFields P fs k = true → cs.length = fs.length → ds.length = fs.length →
    (∀ (j : Nat) (c : Int), cs[j]? = some c → us[k + j]? = some (.int .i64 c)) → (∀ (j : Nat) (c : Int), ds[j]? = some c → vs[k + j]? = some (.int .i64 c)) → (Op.eqFields (d + 1) us vs fs).run P w = .ok (decide (cs = ds)) w
  | [], k, [], [], _, _, _, _, _ => by simp [Op.eqFields]
  | f :: fs, k, c :: cs, e :: ds, hf, hc, hd, hu, hv => by
    unfold intFields at hf
    simp only [Bool.and_eq_true] at hf
    obtain ⟨⟨⟨h1, h2⟩, h3⟩, h4⟩ := hf
    have h2 := Nat.eq_of_beq_eq_true h2
    have hn : f.name ≠ "_" := by
      intro e
      rw [e] at h3
      exact absurd h3 (by decide)
    have ht : P.underlying f.type = some (.int .i64) := by
      revert h1
      split
      · intro _; assumption
      · intro h; cases h
    have ha : (Go.isAgg f.type).run P w = .ok false w := by
      unfold Go.isAgg
      rw [Sem.run_bind, run_underlying ht, Result.andThen_ok]
      rfl
    have p1 : (part f.type us f.offset).run P w = .ok (.int .i64 c) w := by
      unfold part
      rw [Sem.run_bind, ha, Result.andThen_ok]
      have := hu 0 c rfl
      rw [Nat.add_zero, ← h2] at this
      simp [this]
    have p2 : (part f.type vs f.offset).run P w = .ok (.int .i64 e) w := by
      unfold part
      rw [Sem.run_bind, ha, Result.andThen_ok]
      have := hv 0 e rfl
      rw [Nat.add_zero, ← h2] at this
      simp [this]
    unfold Op.eqFields
    rw [if_pos hn, Sem.run_bind, p1, Result.andThen_ok, Sem.run_bind, p2, Result.andThen_ok, Sem.run_bind, run_equalIn_int w d f.type .i64 .i64 c e ht, Result.andThen_ok]
    by_cases hce : c = e
    · subst hce
      have ih := eqFields_ints w d fs (k + 1) cs ds h4 (by simpa using hc) (by simpa using hd) (fun j x hj => by have := hu (j + 1) x hj; rwa [show k + (j + 1) = k + 1 + j by omega] at this) fun j x hj => by have := hv (j + 1) x hj; rwa [show k + (j + 1) = k + 1 + j by omega] at this
      simp [ih]
    · have : ¬ (c :: cs = e :: ds) := fun h => hce (List.cons.inj h).1
      simp [hce, this]
section
variable {P : Program} {B : Nat → Prop} {W : En} {o : Oper} {st : St} {KE : V → List (Nat × Nat × Ob) → Prop}
def intV (n : Int) : V := .t (.int .i64 n)
def cmpI (op : BinOp) (cs ds : List Int) : Option Bool :=
  match op with
  | .eql => some (decide (cs = ds)) | .neq => some (!decide (cs = ds)) | _ => none
theorem agg_ints {w : World} {lk : Nat → Option (Nat × Ob)} {pl : Nat → Value} {Fr : Nat → Prop} {cs : List Int} {u : Value} (h : C2 P w lk pl Fr (.agg (cs.map intV)) u) : ∃ us : Array Value, u = .agg us ∧ ∀ (j : Nat) (c : Int), cs[j]? = some c → us[j]? = some (.int .i64 c) := by
  obtain ⟨us, h1, h2, h3⟩ := h
  refine ⟨us.toArray, h1, fun j c hj => ?_⟩
  have hl : j < us.length := by rw [h2, List.length_map]; exact (List.getElem?_eq_some_iff.1 hj).1
  have h4 : Rd P w Fr (.int .i64 c) us[j] := h3 j (intV c) us[j] (by rw [List.getElem?_map, hj]; rfl) (List.getElem?_eq_getElem hl)
  have h5 : us[j] = .int .i64 c := by
    generalize us[j] = u at h4
    cases h4
    rfl
  rw [List.getElem?_toArray, List.getElem?_eq_getElem hl, h5]
theorem OpS.cmp_ints {op : BinOp} {t t' : TypeId} {x y : Operand} {xs ys : List V} {cs ds : List Int} {b : Bool} {fs : Array Field} (hK : KE (.t (.bool b)) []) (ho : o.op = .binOp op t x y t' := by exact rfl) (hx : st.ev x = .agg xs := by exact rfl) (hy : st.ev y = .agg ys := by exact rfl)
    (hxs : xs = cs.map intV := by exact (show _ = List.map intV [_, _, _, _, _, _, _, _, _] from rfl)) (hys : ys = ds.map intV := by exact (show _ = List.map intV [_, _, _, _, _, _, _, _, _] from rfl)) (hfs : P.fieldsOf t = fs := by exact rfl) (ht : P.underlying t = some (.struct fs) := by exact rfl) (hp : P.stoodInHeld t = false := by exact rfl) (hm : P.eqGuardType P.depth t = false := by kernel_rfl)
    (hf : intFields P fs.toList 0 = true := by exact rfl) (hc : cs.length = fs.toList.length := by exact rfl) (hd : ds.length = fs.toList.length := by exact rfl) (hb : cmpI op cs ds = some b := by exact rfl) : OpS P B W o st KE :=
  OpS.pure_ hK fun a w pl F hs => by
    refine ⟨.bool b, ?_, Rd.bool⟩
    unfold execOp
    rw [ho]
    have h1 := hs.ev x
    have h2 := hs.ev y
    rw [hx, hxs] at h1
    rw [hy, hys] at h2
    obtain ⟨us, e1, g1⟩ := agg_ints h1
    obtain ⟨vs, e2, g2⟩ := agg_ints h2
    have hq : (Op.equalIn 10000 t (.agg us) (.agg vs)).run P w = .ok (decide (cs = ds)) w := by
      rw [run_equalIn_agg w 9999 t us vs (by rw [hfs]; exact ht) hp, hfs]
      exact eqFields_ints w 9998 fs.toList 0 cs ds hf hc hd (fun j c hj => by rw [Nat.zero_add]; exact g1 j c hj) fun j c hj => by rw [Nat.zero_add]; exact g2 j c hj
    refine exec_value ?_
    rw [e1, e2, Sem.run_bind, run_eqGuard_agg w op t x y us vs hm, Result.andThen_ok]
    cases op <;> simp only [cmpI, Option.some.injEq, reduceCtorEq] at hb <;> subst hb
    · rw [run_eql_struct, hq, Result.andThen_ok]
    · rw [run_neq_struct, hq, Result.andThen_ok]
end
theorem pxeqs {X Y : Prop} (h : Y) (r : Hld Y → X := by intro h; (refine q4ed5 (n := 10) ?_; exact OpS.cmp_ints h.out)) : X := r ⟨h⟩
end Go.Proofs.Ytmkpgcahmbancaa.Ab
