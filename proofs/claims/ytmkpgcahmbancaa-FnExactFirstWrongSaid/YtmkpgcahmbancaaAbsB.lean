/- What is proved: the way from a law's contract in the calculus of abstract states to its statement.
   Conditions: none beyond those that each lemma names. -/
import Derived.Test.YtmkpgcahmbancaaLaw
import Derived.Test.YtmkpgcahmbancaaClosed
import Derived.Test.YtmkpgcahmbancaaAbsA
namespace Go.Proofs.Ytmkpgcahmbancaa
set_option linter.unusedSimpArgs false
set_option linter.unusedVariables false
open Go.RowKit Go.ChangeShapes Go.WideShapes

def TY.flt : TY → Bool
  | .int _ | .str | .bool | .unit => true
  | .slice _ _ => false
  | .struct f => f.flt
  | .last a => a.flt
  | .pair a b => a.flt && b.flt
/-- A datum's cells, as trees. -/
def TY.tr : (t : TY) → t.V → List Ab.T
  | .int k, n => [.int k n]
  | .str, s => [.str s.data.toList]
  | .bool, b => [.bool b]
  | .slice e t, xs => [.lst t.flt e (List.map t.tr xs)]
  | .struct f, x => f.tr x
  | .unit, _ => []
  | .last a, x => a.tr x
  | .pair a b, x => a.tr x.1 ++ b.tr x.2
def TY.lay (P : Program) : TY → Bool
  | .slice e t => Nat.beq (P.cellsOf e) t.sz && t.lay P
  | .struct f => f.lay P
  | .last a => a.lay P
  | .pair a b => a.lay P && b.lay P
  | _ => true
def TY.arg : (t : TY) → t.V → Ab.V
  | .struct f, x => .agg ((f.tr x).map .t)
  | .int k, n => .t (.int k n)
  | .str, s => .t (.str s.data.toList)
  | .bool, b => .t (.bool b)
  | .slice e t, xs => .t (.lst t.flt e (List.map t.tr xs))
  | _, _ => .junk
theorem TY.tr_len : (t : TY) → (x : t.V) → (t.tr x).length = t.sz
  | .int _, _ => rfl
  | .str, _ => rfl
  | .bool, _ => rfl
  | .slice _ _, _ => rfl
  | .struct f, x => TY.tr_len f x
  | .unit, _ => rfl
  | .last a, x => TY.tr_len a x
  | .pair a b, x => by
    show (a.tr x.1 ++ b.tr x.2).length = a.sz + b.sz
    rw [List.length_append, TY.tr_len a, TY.tr_len b]
theorem TY.tr_flat : (t : TY) → t.flt = true → (x : t.V) → ∀ c ∈ t.tr x, c.flat = true
  | .int _, _, _ => by intro c hc; cases List.mem_singleton.1 hc; rfl
  | .str, _, _ => by intro c hc; cases List.mem_singleton.1 hc; rfl
  | .bool, _, _ => by intro c hc; cases List.mem_singleton.1 hc; rfl
  | .slice _ _, h, _ => by cases h
  | .struct f, h, x => TY.tr_flat f h x
  | .unit, _, _ => by intro c hc; cases hc
  | .last a, h, x => TY.tr_flat a h x
  | .pair a b, h, x => by
    have h' : (a.flt && b.flt) = true := h
    rw [Bool.and_eq_true] at h'
    intro c hc
    rcases List.mem_append.1 (show c ∈ a.tr x.1 ++ b.tr x.2 from hc) with hc | hc
    · exact TY.tr_flat a h'.1 x.1 c hc
    · exact TY.tr_flat b h'.2 x.2 c hc
theorem rdList_pw {α : Type} {R : List Value → α → Prop} {S : Ab.T → Value → Prop} {f : α → List Ab.T} (hR : ∀ cs x, R cs x → Ab.Pw S (f x) cs) : ∀ {xs : List α} {cs : List Value}, RdList R xs cs → Ab.Pw S (xs.map f).flatten cs
  | [], cs, h => by
    have h' : cs = [] := h
    subst h'; exact Ab.Pw.nil
  | x :: xs, cs, ⟨c1, c2, e, h1, h2⟩ => by
    subst e
    simpa using (hR _ _ h1).append (rdList_pw hR h2)
theorem TY.tr_rd {P : Program} {w : World} {N : Nat} : (t : TY) → t.lay P = true → (cs : List Value) → (x : t.V) → t.Rd w N cs x → Ab.Pw (Ab.Rd P w (· < N)) (t.tr x) cs
  | .int _, _, cs, n, h => by
    obtain ⟨h1, h2⟩ : cs = _ ∧ _ := h
    subst h1
    exact Ab.Pw.cons (.int h2) Ab.Pw.nil
  | .str, _, cs, s, h => by
    obtain ⟨h1, h2⟩ : cs = [.string s] ∧ s.size ≤ maxLen := h
    subst h1
    refine Ab.Pw.cons ?_ Ab.Pw.nil
    have : Ab.Rd P w (· < N) (.str s.data.toList) (.string (Ab.bs s.data.toList)) := .str (by rw [Array.length_toList]; exact h2)
    rwa [Ab.bs_eta] at this
  | .bool, _, cs, b, h => by
    have h1 : cs = [.bool b] := h
    subst h1
    exact Ab.Pw.cons .bool Ab.Pw.nil
  | .slice e t, hl, cs, xs, h => by
    obtain ⟨A, n, c, h1, h2, h3, h4, us, h5, h6⟩ := h
    subst h1 h2
    have hl' : (Nat.beq (P.cellsOf e) t.sz && t.lay P) = true := hl
    rw [Bool.and_eq_true] at hl'
    have hsz : P.cellsOf e = t.sz := Nat.eq_of_beq_eq_true hl'.1
    have hp := rdList_pw (f := t.tr) (S := Ab.Rd P w (· < N)) (fun cs x hx => TY.tr_rd t hl'.2 cs x hx) h6
    refine Ab.Pw.cons ?_ Ab.Pw.nil
    have hlen : (List.map t.tr xs).length = xs.length := List.length_map _
    show Ab.Rd P w (· < N) (.lst t.flt e (List.map t.tr xs)) (.slice A xs.length c)
    rw [← hlen]
    refine .lst us (by rw [hlen]; exact h3) h4 ?_ ?_ hp.1.symm ?_ hp.2
    · intro y hy
      obtain ⟨z, _, rfl⟩ := List.mem_map.1 hy
      rw [TY.tr_len, hsz]
    · intro hf y hy
      obtain ⟨l, hl, hy⟩ := List.mem_flatten.1 hy
      obtain ⟨z, _, rfl⟩ := List.mem_map.1 hl
      exact TY.tr_flat t hf z y hy
    · intro hn
      exact h5.2 (List.length_pos_iff.2 hn)
  | .struct f, hl, cs, x, h => TY.tr_rd f hl cs x h
  | .unit, _, cs, _, h => by
    have h1 : cs = [] := h
    subst h1; exact Ab.Pw.nil
  | .last a, hl, cs, x, h => TY.tr_rd a hl cs x h
  | .pair a b, hl, cs, x, h => by
    obtain ⟨c1, c2, h1, h2, h3⟩ := h
    subst h1
    have hl' : (a.lay P && b.lay P) = true := hl
    rw [Bool.and_eq_true] at hl'
    exact (TY.tr_rd a hl'.1 c1 x.1 h2).append (TY.tr_rd b hl'.2 c2 x.2 h3)
theorem arg_c1 {P : Program} {w : World} {N : Nat} {t : TY} {cs : List Value} {x : t.V} (hl : t.lay P = true) (h : t.Rd w N cs x) (hv : (match t with | .unit | .last _ | .pair _ _ => false | _ => true) = true) : Ab.C1 P w Ab.noLk Ab.noPl (· < N) (t.arg x) (t.val cs) := by
  have hp := TY.tr_rd t hl cs x h
  cases t with
  | struct f =>
    refine ⟨cs, rfl, ?_, ?_⟩
    · rw [hp.1, List.length_map]; rfl
    · intro k v u hv hu
      rw [List.getElem?_map, Option.map_eq_some_iff] at hv
      obtain ⟨c, hc, rfl⟩ := hv
      exact hp.2 k c u hc hu
  | unit => cases hv
  | last => cases hv
  | pair => cases hv
  | int k =>
    obtain ⟨h1, _⟩ : cs = _ ∧ _ := h
    subst h1
    exact hp.2 0 _ _ rfl rfl
  | str =>
    obtain ⟨h1, _⟩ : cs = [.string x] ∧ _ := h
    subst h1
    exact hp.2 0 _ _ rfl rfl
  | bool =>
    have h1 : cs = [.bool x] := h
    subst h1
    exact hp.2 0 _ _ rfl rfl
  | slice e t =>
    obtain ⟨A, n, c, h1, _⟩ := h
    subst h1
    exact hp.2 0 _ _ rfl rfl
theorem law_ac {P : Program} {f : FuncId} {xs : List Ab.V} {w : World} {args : List Value} (h : Ab.AC P f xs (.t (.bool true))) (ha : Ab.Pw (Ab.C1 P w Ab.noLk Ab.noPl (· < w.heap.size)) xs args) :
    Calls P f args.toArray w fun e w' => e = .returned (.bool true) ∧ Below w.heap.size w w' := by
  refine (h.2 w (· < w.heap.size) args (fun _ h => h) ha).mono ?_
  rintro e w' ⟨u, rfl, hb, F, h1, _⟩
  have h2 : Ab.Rd P w' _ (.bool true) u := h1
  cases h2
  exact ⟨rfl, hb⟩
end Go.Proofs.Ytmkpgcahmbancaa
