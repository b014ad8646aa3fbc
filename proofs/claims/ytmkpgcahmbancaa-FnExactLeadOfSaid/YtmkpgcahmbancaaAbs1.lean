/- What is proved: a calculus of abstract states for the functions of this seat: values as trees and handles on objects, and how they lie in memory.
   Conditions: none beyond those that each lemma names. -/
import Derived.WalkKit
import Derived.WalkSpells
import Derived.WalkLawsBesides
import Derived.ProofKit
import Derived.Laws.OwnMore
import Derived.Deep.AppendLies
import Derived.Maps.AppendAt
import Derived.Lib.Hide
namespace Go.Proofs.Ytmkpgcahmbancaa.Ab
set_option linter.unusedSimpArgs false
set_option linter.unusedVariables false
open Go.RowKit

/-! ### Values -/
inductive T where
  | int (k : IntKind) (n : Int)
  | bool (b : Bool)
  | str (s : List UInt8)
  | nil
  | lst (fl : Bool) (e : TypeId) (els : List (List T))
inductive V where
  | t (x : T)
  | hnd (o ep : Nat)
  | ptr (o ep i off : Nat)
  | view (o ep i n : Nat)
  | rptr (cs : List T) (off : Nat)
  | lit (v : Value)
  | agg (cs : List V)
  | tup (vs : List V)
  | fr (fl : Bool) (e : TypeId) (els : List (List T))
  | junk
inductive Ob where
  | box (ty : TypeId) (cs : List V)
  | row (fl d : Bool) (e : TypeId) (els : List (List T))
  | hole (e : TypeId) (els : List (List T)) (q : Nat) (x : V)
  | gone
structure St where
  n : Nat
  tmps : List (Nat × V)
  objs : List (Nat × Nat × Ob)

def T.flat : T → Bool
  | .int _ _ | .bool _ | .str _ => true
  | _ => false
def bs (s : List UInt8) : ByteArray := ⟨s.toArray⟩
def Ob.isRow : Ob → Bool
  | .row .. => true
  | .hole .. => true
  | _ => false
def esz (P : Program) : Ob → Nat
  | .row _ _ e _ => P.cellsOf e
  | .hole e _ _ _ => P.cellsOf e
  | _ => 0
def blk : Value → Option (Nat × Nat)
  | .pointer (some ⟨g, b, none⟩) => some (g, b)
  | .slice (some ⟨g, b, none⟩) _ _ => some (g, b)
  | _ => none

def look : List (Nat × Nat × Ob) → Nat → Option (Nat × Ob)
  | [], _ => none
  | (i, e, b) :: r, o => match Nat.beq i o with | true => some (e, b) | false => look r o
def updo (l : List (Nat × Nat × Ob)) (o e : Nat) (b : Ob) : List (Nat × Nat × Ob) := (o, e, b) :: l
def lookT : List (Nat × V) → Nat → V
  | [], _ => .junk
  | (i, v) :: r, t => match Nat.beq i t with | true => v | false => lookT r t
theorem lookT_cons (i : Nat) (v : V) (r : List (Nat × V)) (t : Nat) : lookT ((i, v) :: r) t = if i = t then v else lookT r t := by
  show (match Nat.beq i t with | true => v | false => lookT r t) = _
  cases h : Nat.beq i t
  · have := Nat.ne_of_beq_eq_false h
    rw [if_neg this]
  · have := Nat.eq_of_beq_eq_true h
    rw [if_pos this]
theorem look_cons (i e : Nat) (b : Ob) (r : List (Nat × Nat × Ob)) (o : Nat) : look ((i, e, b) :: r) o = if i = o then some (e, b) else look r o := by
  show (match Nat.beq i o with | true => some (e, b) | false => look r o) = _
  cases h : Nat.beq i o
  · have := Nat.ne_of_beq_eq_false h
    rw [if_neg this]
  · have := Nat.eq_of_beq_eq_true h
    rw [if_pos this]
theorem look_updo (l : List (Nat × Nat × Ob)) (o e : Nat) (b : Ob) (o' : Nat) : look (updo l o e b) o' = if o = o' then some (e, b) else look l o' := by
  exact look_cons o e b l o'

/-! ### Reading and owning -/
def Mem (w : World) (B : Nat → Prop) (A : Option Addr) (us : List Value) : Prop :=
  us ≠ [] → ∃ ad, A = some ad ∧ B ad.block ∧ ∀ k u, us[k]? = some u → w.cell? (ad.add k) = some u
theorem block_of_add (a : Addr) (n : Nat) : (a.add n).block = a.block := by unfold Addr.add; split <;> rfl
theorem add_of_add (a : Addr) (i j : Nat) : (a.add i).add j = a.add (i + j) := by
  unfold Addr.add
  by_cases hi : i = 0 <;> by_cases hj : j = 0 <;> simp [hi, hj, Nat.add_assoc]
theorem add_lit0 (g off j : Nat) : (⟨g, off, none⟩ : Addr).add j = ⟨g, off + j, none⟩ := by unfold Addr.add; split <;> simp_all
theorem Mem.mono {w w' : World} {B B' : Nat → Prop} {A : Option Addr} {us : List Value} (h : Mem w B A us) (hB : ∀ b, B b → B' b) (hk : ∀ b, B b → w'.heap[b]? = w.heap[b]?) : Mem w' B' A us := fun hn => by
  obtain ⟨ad, e, hb, hc⟩ := h hn
  exact ⟨ad, e, hB _ hb, fun k u hu => (World.cell?_of_block (by rw [block_of_add]; exact hk _ hb)).trans (hc k u hu)⟩

/-- A slice value that owns its elements' cells, in a block none of whose cells is frozen. -/
def OwnsR (w : World) (e : TypeId) (size : Nat) (v : Value) (n : Nat) (xs : List Value) : Prop :=
  xs.length = n * size ∧ ((v = .slice none 0 0 ∧ n = 0) ∨
    ∃ g off cap cur fz, v = .slice (some ⟨g, off, none⟩) n cap ∧ w.heap[g]? = some (.cells cur e fz) ∧ (fz = (0, 0) ∨ cur.size ≤ fz.1) ∧ n ≤ cap ∧ cap ≤ maxLen ∧ off + cap * size ≤ cur.size ∧ (cur.toList.drop off).take (n * size) = xs)
theorem OwnsR.nil (w : World) (e : TypeId) (size : Nat) : OwnsR w e size (.slice none 0 0) 0 [] := ⟨by simp, .inl ⟨rfl, rfl⟩⟩
inductive Rd (P : Program) (w : World) (B : Nat → Prop) : T → Value → Prop
  | int {k n} : (Lit.int k n).wf = true → Rd P w B (.int k n) (.int k n)
  | bool {b} : Rd P w B (.bool b) (.bool b)
  | str {s} : s.length ≤ maxLen → Rd P w B (.str s) (.string (bs s))
  | nil : Rd P w B .nil (.slice none 0 0)
  | lst {fl e els A c} (us : List Value) : els.length ≤ c → c ≤ maxLen → (∀ x ∈ els, x.length = P.cellsOf e) → (fl = true → ∀ x ∈ els.flatten, x.flat = true) →
      els.flatten.length = us.length → Mem w B A us → (∀ (k : Nat) (x : T) (u : Value), els.flatten[k]? = some x → us[k]? = some u → Rd P w B x u) → Rd P w B (.lst fl e els) (.slice A els.length c)

theorem Rd.mono {P : Program} {w w' : World} {B B' : Nat → Prop} {x : T} {u : Value} (h : Rd P w B x u) (hB : ∀ b, B b → B' b) (hk : ∀ b, B b → w'.heap[b]? = w.heap[b]?) : Rd P w' B' x u := by
  induction h with
  | int h => exact .int h
  | bool => exact .bool
  | str h => exact .str h
  | nil => exact .nil
  | lst us h1 h2 h3 h4 h5 h6 _ ih => exact .lst us h1 h2 h3 h4 h5 (h6.mono hB hk) ih
theorem Rd.one {P : Program} {w : World} {B : Nat → Prop} {x : T} {u : Value} (h : Rd P w B x u) : u.oneCell' = true := by
  cases h <;> rfl
theorem Rd.flat {P : Program} {w w' : World} {B B' : Nat → Prop} {x : T} {u : Value} (h : Rd P w B x u) (hf : x.flat = true) : Rd P w' B' x u := by
  cases h with
  | int h => exact .int h
  | bool => exact .bool
  | str h => exact .str h
  | nil => cases hf
  | lst => cases hf

inductive Ow (P : Program) (w : World) : T → Value → (Nat → Prop) → Prop
  | flat {x u F} : x.flat = true → Rd P w (fun _ => False) x u → (∀ b, ¬ F b) → Ow P w x u F
  | nil {F} : (∀ b, ¬ F b) → Ow P w .nil (.slice none 0 0) F
  | lst {fl e els u F} (us : List Value) (fs : Nat → Nat → Prop) : OwnsR w e (P.cellsOf e) u els.length us → (∀ x ∈ els, x.length = P.cellsOf e) → (fl = true → ∀ x ∈ els.flatten, x.flat = true) →
      els.flatten.length = us.length → (∀ (k : Nat) (x : T) (v : Value), els.flatten[k]? = some x → us[k]? = some v → Ow P w x v (fs k)) → (∀ k k' b, k ≠ k' → fs k b → ¬ fs k' b) →
      (∀ k b, fs k b → u.ownBlock ≠ some b) → (∀ b, F b ↔ (u.ownBlock = some b ∨ ∃ k, fs k b)) → Ow P w (.lst fl e els) u F

theorem ownsRow_keep {w w' : World} {e : TypeId} {size : Nat} {v : Value} {n : Nat} {xs : List Value} (h : OwnsR w e size v n xs) (hk : ∀ b, v.ownBlock = some b → w'.heap[b]? = w.heap[b]?) : OwnsR w' e size v n xs := by
  refine ⟨h.1, ?_⟩
  rcases h.2 with hn | ⟨g, off, cap, cur, fz, rfl, hg, rest⟩
  · exact .inl hn
  · exact .inr ⟨g, off, cap, cur, fz, rfl, (hk g rfl).trans hg, rest⟩
theorem Ow.keep {P : Program} {w w' : World} {x : T} {u : Value} {F : Nat → Prop} (h : Ow P w x u F) (hk : ∀ b, F b → w'.heap[b]? = w.heap[b]?) : Ow P w' x u F := by
  induction h with
  | flat hf hr hF => exact .flat hf (hr.flat hf) hF
  | nil hF => exact .nil hF
  | lst us fs h1 h2 h3 h4 _ h6 h7 h8 ih =>
    exact .lst us fs (ownsRow_keep h1 fun b hb => hk b ((h8 b).2 (.inl hb))) h2 h3 h4 (fun k x v hx hv => ih k x v hx hv fun b hb => hk b ((h8 b).2 (.inr ⟨k, hb⟩))) h6 h7 h8
theorem ownsRow_slice {w : World} {e : TypeId} {size : Nat} {v : Value} {n : Nat} {xs : List Value} (h : OwnsR w e size v n xs) :
    ∃ A c, v = .slice A n c ∧ n ≤ c ∧ c ≤ maxLen ∧ (xs ≠ [] → ∃ g off, A = some ⟨g, off, none⟩ ∧ v.ownBlock = some g ∧ blk v = some (g, off) ∧ ∀ k u, xs[k]? = some u → w.cell? ⟨g, off + k, none⟩ = some u) := by
  rcases h.2 with ⟨rfl, rfl⟩ | ⟨g, off, cap, cur, fz, rfl, hg, hfz, h1, h2, h3, h4⟩
  · exact ⟨none, 0, rfl, Nat.le_refl _, by simp [maxLen], fun hn => absurd (List.eq_nil_of_length_eq_zero (by simpa using h.1)) hn⟩
  · refine ⟨_, _, rfl, h1, h2, fun _ => ⟨g, off, rfl, rfl, rfl, fun k u hu => ?_⟩⟩
    rw [cell_of_row w g (off + k) cur e fz hg]
    rw [← h4, List.getElem?_take] at hu
    split at hu
    · rw [List.getElem?_drop] at hu
      simpa using hu
    · cases hu
theorem Ow.rd {P : Program} {w : World} {x : T} {u : Value} {F B : Nat → Prop} (h : Ow P w x u F) (hB : ∀ b, F b → B b) : Rd P w B x u := by
  induction h with
  | flat hf hr hF => exact hr.flat hf
  | nil hF => exact .nil
  | @lst fl e els u F us fs h1 h2 h3 h4 _ h6 h7 h8 ih =>
    obtain ⟨A, c, rfl, hc1, hc2, hm⟩ := ownsRow_slice h1
    refine .lst us hc1 hc2 h2 h3 h4 (fun hn => ?_) fun k x v hx hv => ih k x v hx hv fun b hb => hB b ((h8 b).2 (.inr ⟨k, hb⟩))
    obtain ⟨g, off, rfl, hg, _, hcell⟩ := hm hn
    exact ⟨_, rfl, hB g ((h8 g).2 (.inl hg)), fun k u hu => by rw [add_lit0]; exact hcell k u hu⟩
theorem Ow.one {P : Program} {w : World} {x : T} {u : Value} {F : Nat → Prop} (h : Ow P w x u F) : u.oneCell' = true := (h.rd (B := fun _ => True) fun _ _ => trivial).one

/-! ### The relation of an abstract state and a real one -/
section
variable (P : Program) (w : World) (lk : Nat → Option (Nat × Ob)) (pl : Nat → Value) (Fr : Nat → Prop)
def C0 : V → Value → Prop
  | .t x, u => Rd P w Fr x u
  | .hnd o ep, u => u.oneCell' = true ∧ ∃ ep' ob, lk o = some (ep', ob) ∧ ep ≤ ep' ∧ (ep = ep' → ob.isRow = true ∧ u = pl o)
  | .ptr o ep i off, u => u.oneCell' = true ∧ ∃ ep' ob, lk o = some (ep', ob) ∧ ep ≤ ep' ∧ (ep = ep' → ∃ g b, blk (pl o) = some (g, b) ∧ u = .pointer (some ⟨g, b + (i * esz P ob + off), none⟩))
  | .view o ep i n, u => u.oneCell' = true ∧ ∃ ep' ob, lk o = some (ep', ob) ∧ ep ≤ ep' ∧ (ep = ep' → ob.isRow = true ∧ ∃ A c, u = .slice A n c ∧ n ≤ c ∧ c ≤ maxLen ∧ (0 < n → ∃ g b, blk (pl o) = some (g, b) ∧ A = some ⟨g, b + i * esz P ob, none⟩))
  | .rptr cs off, u => ∃ ad, u = .pointer (some ad) ∧ ∀ (j : Nat) (x : T), cs[off + j]? = some x → Fr ad.block ∧ ∃ y, w.cell? (ad.add j) = some y ∧ Rd P w Fr x y
  | .lit v, u => u = v
  | .junk, _ => True
  | _, _ => False
def C1 : V → Value → Prop
  | .agg cs, u => ∃ us : List Value, u = .agg us.toArray ∧ us.length = cs.length ∧ ∀ (k : Nat) (v : V) (x : Value), cs[k]? = some v → us[k]? = some x → C0 P w lk pl Fr v x
  | v, u => C0 P w lk pl Fr v u
def C2 : V → Value → Prop
  | .tup vs, u => ∃ us : List Value, u = .tuple us.toArray ∧ us.length = vs.length ∧ ∀ (k : Nat) (v : V) (x : Value), vs[k]? = some v → us[k]? = some x → C1 P w lk pl Fr v x
  | v, u => C1 P w lk pl Fr v u
/-- A row whose inner trees it does not own. -/
def Sh (Rr : T → Value → Prop) (fl : Bool) (e : TypeId) (els : List (List T)) (v : Value) (F : Nat → Prop) : Prop :=
  ∃ us, OwnsR w e (P.cellsOf e) v els.length us ∧ (∀ x ∈ els, x.length = P.cellsOf e) ∧ (fl = true → ∀ x ∈ els.flatten, x.flat = true) ∧ els.flatten.length = us.length ∧
    (∀ (k : Nat) (x : T) (u : Value), els.flatten[k]? = some x → us[k]? = some u → Rr x u) ∧ ∀ b, F b ↔ v.ownBlock = some b
/-- An object; its cells as CC says, its shared trees as Rr says. -/
def ObR (CC : V → Value → Prop) (Rr : T → Value → Prop) (v : Value) (F : Nat → Prop) : Ob → Prop
  | .box ty cs => ∃ (g : Nat) (us : List Value), v = .pointer (some ⟨g, 0, none⟩) ∧ (∀ b, F b ↔ b = g) ∧ w.heap[g]? = some (.cells us.toArray ty (0, 0)) ∧ us.length = cs.length ∧ ∀ (k : Nat) (x : V) (u : Value), cs[k]? = some x → us[k]? = some u → CC x u
  | .row fl d e els => (d = true ∧ Ow P w (.lst fl e els) v F) ∨ (d = false ∧ Sh P w Rr fl e els v F)
  | .hole e els q x => ∃ (us : List Value) (fs : Nat → Nat → Prop), OwnsR w e (P.cellsOf e) v els.length us ∧ (∀ x ∈ els, x.length = P.cellsOf e) ∧ els.flatten.length = us.length ∧ (∀ (k : Nat) (y : T) (u : Value), k ≠ q → els.flatten[k]? = some y → us[k]? = some u → Ow P w y u (fs k)) ∧
      (∀ u, us[q]? = some u → CC x u) ∧ (∀ k k' b, k ≠ k' → k ≠ q → k' ≠ q → fs k b → ¬ fs k' b) ∧ (∀ k b, k ≠ q → fs k b → v.ownBlock ≠ some b) ∧ (∀ b, F b ↔ (v.ownBlock = some b ∨ ∃ k, k ≠ q ∧ fs k b)) ∧ q < us.length
  | .gone => ∀ b, ¬ F b
end
/-- The world at a function's beginning, and the blocks that were handed over to it. -/
structure En extends World where
  M : Nat → Prop
  objs0 : List (Nat × Nat × Ob)
  pl0 : Nat → Value
/-- A function without objects that are handed over to it. -/
def En.bare (w : World) : En := ⟨w, fun _ => False, [], fun _ => undef⟩
/-- What a function may own. -/
def En.o (W : En) (b : Nat) : Prop := W.heap.size ≤ b ∨ W.M b
/-- All else is as it was. -/
structure Kp (W : En) (w w' : World) : Prop where
  os : w'.os = w.os
  tape : w'.tape = w.tape
  output : w'.output = w.output
  size : w.heap.size ≤ w'.heap.size
  block : ∀ k, ¬ W.o k → w'.heap[k]? = w.heap[k]?
theorem Kp.refl (W : En) (w : World) : Kp W w w := ⟨rfl, rfl, rfl, Nat.le_refl _, fun _ _ => rfl⟩
theorem Kp.trans {W : En} {a b c : World} (h : Kp W a b) (k : Kp W b c) : Kp W a c :=
  ⟨k.os.trans h.os, k.tape.trans h.tape, k.output.trans h.output, Nat.le_trans h.size k.size, fun i hi => (k.block i hi).trans (h.block i hi)⟩
theorem Below.kp {W : En} {N : Nat} {w w' : World} (h : Below N w w') (hN : W.heap.size ≤ N) : Kp W w w' :=
  ⟨h.os, h.tape, h.output, h.size, fun k hk => h.block k (Nat.lt_of_lt_of_le (Nat.lt_of_not_le fun h' => hk (.inl h')) hN)⟩
theorem Kp.below {W : En} {w w' : World} (h : Kp W w w') (hM : ∀ b, ¬ W.M b) : Below W.heap.size w w' :=
  ⟨h.os, h.tape, h.output, h.size, fun k hk => h.block k fun ho => ho.elim (fun h' => by omega) (hM k)⟩
def Free (B : Nat → Prop) (O : Nat → Prop) (lk : Nat → Option (Nat × Ob)) (F : Nat → Nat → Prop) (w : World) (b : Nat) : Prop := (B b ∨ O b) ∧ b < w.heap.size ∧ ∀ o x, lk o = some x → ¬ F o b

structure SimW (P : Program) (B : Nat → Prop) (W : En) (st : St) (a : Act) (w : World) (pl : Nat → Value) (F : Nat → Nat → Prop) : Prop where
  old : ∀ b, B b → b < W.heap.size
  size : a.tmps.size = st.n
  defers : a.defers = []
  below : Kp W W.toWorld w
  tmps : ∀ i : Nat, i < st.n → C2 P w (look st.objs) pl (Free B W.o (look st.objs) F w) (lookT st.tmps i) (a.tmps.getD i undef)
  objs : ∀ o ep ob, look st.objs o = some (ep, ob) → ObR P w (C0 P w (look st.objs) pl (Free B W.o (look st.objs) F w)) (Rd P w (Free B W.o (look st.objs) F w)) (pl o) (F o) ob
  range : ∀ o x b, look st.objs o = some x → F o b → W.o b ∧ b < w.heap.size
  apart : ∀ o o' x x' b, o ≠ o' → look st.objs o = some x → look st.objs o' = some x' → F o b → ¬ F o' b
  hist : ∀ o ob0, look W.objs0 o = some (0, ob0) → ∀ ep ob, look st.objs o = some (ep, ob) → 0 < ep ∨ (pl o = W.pl0 o ∧ ob.isRow = ob0.isRow ∧ esz P ob = esz P ob0)
def Sim (P : Program) (B : Nat → Prop) (W : En) (st : St) (a : Act) (w : World) : Prop := ∃ pl F, SimW P B W st a w pl F

section
variable {P : Program} {w w' : World} {lk lk' : Nat → Option (Nat × Ob)} {pl pl' : Nat → Value} {Fr Fr' : Nat → Prop}
/-- How one relation of values goes over into another. -/
structure Goes (P : Program) (w w' : World) (lk lk' : Nat → Option (Nat × Ob)) (pl pl' : Nat → Value) (Fr Fr' : Nat → Prop) : Prop where
  more : ∀ b, Fr b → Fr' b
  heap : ∀ b, Fr b → w'.heap[b]? = w.heap[b]?
  look : ∀ o ep ob, lk o = some (ep, ob) → ∃ ep' ob', lk' o = some (ep', ob') ∧ (ep < ep' ∨ (ep = ep' ∧ pl' o = pl o ∧ ob'.isRow = ob.isRow ∧ esz P ob' = esz P ob))
theorem C0.goes (g : Goes P w w' lk lk' pl pl' Fr Fr') {v : V} {u : Value} (h : C0 P w lk pl Fr v u) : C0 P w' lk' pl' Fr' v u := by
  cases v with
  | t x => exact Rd.mono h g.more g.heap
  | hnd o ep =>
    obtain ⟨h1, ep0, ob0, h2, h3, h4⟩ := h
    obtain ⟨ep', ob', h5, h6⟩ := g.look _ _ _ h2
    refine ⟨h1, ep', ob', h5, by omega, fun e => ?_⟩
    rcases h6 with h6 | ⟨h6, h7, h8, h9⟩
    · omega
    · rw [h7, h8]; exact h4 (by omega)
  | ptr o ep i off =>
    obtain ⟨h1, ep0, ob0, h2, h3, h4⟩ := h
    obtain ⟨ep', ob', h5, h6⟩ := g.look _ _ _ h2
    refine ⟨h1, ep', ob', h5, by omega, fun e => ?_⟩
    rcases h6 with h6 | ⟨h6, h7, h8, h9⟩
    · omega
    · rw [h7, h9]; exact h4 (by omega)
  | view o ep i n =>
    obtain ⟨h1, ep0, ob0, h2, h3, h4⟩ := h
    obtain ⟨ep', ob', h5, h6⟩ := g.look _ _ _ h2
    refine ⟨h1, ep', ob', h5, by omega, fun e => ?_⟩
    rcases h6 with h6 | ⟨h6, h7, h8, h9⟩
    · omega
    · rw [h7, h8, h9]; exact h4 (by omega)
  | rptr cs off =>
    obtain ⟨ad, h1, h2⟩ := h
    refine ⟨ad, h1, fun j x hx => ?_⟩
    obtain ⟨h3, y, h4, h5⟩ := h2 j x hx
    exact ⟨g.more _ h3, y, (World.cell?_of_block (by rw [block_of_add]; exact g.heap _ h3)).trans h4, h5.mono g.more g.heap⟩
  | lit => exact h
  | junk => trivial
  | agg => exact h
  | tup => exact h
  | fr => exact h
theorem C1.goes (g : Goes P w w' lk lk' pl pl' Fr Fr') {v : V} {u : Value} (h : C1 P w lk pl Fr v u) : C1 P w' lk' pl' Fr' v u := by
  cases v with
  | agg cs =>
    obtain ⟨us, h1, h2, h3⟩ := h
    exact ⟨us, h1, h2, fun k v x hv hx => (h3 k v x hv hx).goes g⟩
  | _ => unfold C1 at h ⊢; exact C0.goes g h
theorem C2.goes (g : Goes P w w' lk lk' pl pl' Fr Fr') {v : V} {u : Value} (h : C2 P w lk pl Fr v u) : C2 P w' lk' pl' Fr' v u := by
  cases v with
  | tup cs =>
    obtain ⟨us, h1, h2, h3⟩ := h
    exact ⟨us, h1, h2, fun k v x hv hx => (h3 k v x hv hx).goes g⟩
  | _ => unfold C2 at h ⊢; exact C1.goes g h
theorem ObR.goes {CC CC' : V → Value → Prop} {Rr Rr' : T → Value → Prop} {v : Value} {F : Nat → Prop} {ob : Ob} (hk : ∀ b, F b → w'.heap[b]? = w.heap[b]?) (hC : ∀ x u, CC x u → CC' x u) (hR : ∀ x u, Rr x u → Rr' x u)
    (h : ObR P w CC Rr v F ob) : ObR P w' CC' Rr' v F ob := by
  cases ob with
  | box ty cs =>
    obtain ⟨g, us, h1, h2, h3, h4, h5⟩ := h
    exact ⟨g, us, h1, h2, (hk g ((h2 g).2 rfl)).trans h3, h4, fun k x u hx hu => hC _ _ (h5 k x u hx hu)⟩
  | row fl d e els =>
    rcases h with ⟨hd, h⟩ | ⟨hd, us, h1, h2, h3, h4, h5, h6⟩
    · exact .inl ⟨hd, h.keep hk⟩
    · exact .inr ⟨hd, us, ownsRow_keep h1 fun b hb => hk b ((h6 b).2 hb), h2, h3, h4, fun k x u hx hu => hR _ _ (h5 k x u hx hu), h6⟩
  | hole e els q x =>
    obtain ⟨us, fs, h1, h2, h3, h4, h5, h6, h7, h8, h9⟩ := h
    exact ⟨us, fs, ownsRow_keep h1 fun b hb => hk b ((h8 b).2 (.inl hb)), h2, h3, fun k y u hq hy hu => (h4 k y u hq hy hu).keep fun b hb => hk b ((h8 b).2 (.inr ⟨k, hq, hb⟩)), fun u hu => hC _ _ (h5 u hu), h6, h7, h8, h9⟩
  | gone => exact h
end

/-- What an object's change lets go. -/
def Gone (lk : Nat → Option (Nat × Ob)) (F : Nat → Nat → Prop) (o : Nat) (K : Nat → Prop) (b : Nat) : Prop := (∃ x, lk o = some x ∧ F o b) ∨ ∃ i x, i ≠ o ∧ K i ∧ lk i = some x ∧ F i b
/-- One object changes or comes into being, others go: what was there goes on. K: those that go. -/
theorem SimW.change {P : Program} {B : Nat → Prop} {W : En} {st : St} {a : Act} {w w' : World} {pl : Nat → Value} {F : Nat → Nat → Prop} (h : SimW P B W st a w pl F)
    {o ep : Nat} {ob : Ob} {v' : Value} {F' : Nat → Prop} {K : Nat → Prop} {objs' : List (Nat × Nat × Ob)}
    (hw : Kp W w w') (hk : ∀ b, b < w.heap.size → (∀ x, look st.objs o = some x → ¬ F o b) → w'.heap[b]? = w.heap[b]?)
    (hl : look objs' o = some (ep, ob)) (hlo : ∀ i, i ≠ o → ¬ K i → look objs' i = look st.objs i) (hlk : ∀ i, i ≠ o → K i → ∃ e b, look st.objs i = some (e, b) ∧ look objs' i = some (e + 1, .gone))
    (hep : ∀ ep0 ob0, look st.objs o = some (ep0, ob0) → ep0 < ep ∨ (ep0 = ep ∧ v' = pl o ∧ ob.isRow = ob0.isRow ∧ esz P ob = esz P ob0)) (hnone : look st.objs o = none → 0 < ep)
    (hF : ∀ b, F' b → (w.heap.size ≤ b ∧ b < w'.heap.size) ∨ Gone (look st.objs) F o K b)
    (hob : ∀ lk' pl' Fr', Goes P w w' (look st.objs) lk' pl pl' (Free B W.o (look st.objs) F w) Fr' → (∀ b, Gone (look st.objs) F o K b → ¬ F' b → Fr' b) → lk' o = some (ep, ob) → pl' o = v' →
      ObR P w' (C0 P w' lk' pl' Fr') (Rd P w' Fr') v' F' ob) :
    ∃ pl' F'', SimW P B W { st with objs := objs' } a w' pl' F'' ∧ pl' o = v' ∧ Goes P w w' (look st.objs) (look objs') pl pl' (Free B W.o (look st.objs) F w) (Free B W.o (look objs') F'' w') ∧
      (∀ b, Gone (look st.objs) F o K b → ¬ F' b → Free B W.o (look objs') F'' w' b) ∧ (∀ j, j ≠ o → ¬ K j → F'' j = F j) := by
  classical
  let pl' : Nat → Value := fun i => if i = o then v' else pl i
  let F'' : Nat → Nat → Prop := fun i => if i = o then F' else if K i then fun _ => False else F i
  have eo : F'' o = F' := if_pos rfl
  have ek : ∀ i, i ≠ o → K i → F'' i = fun _ => False := fun i h1 h2 => by show (if i = o then F' else if K i then _ else _) = _; rw [if_neg h1, if_pos h2]
  have en : ∀ i, i ≠ o → ¬ K i → F'' i = F i := fun i h1 h2 => by show (if i = o then F' else if K i then _ else _) = _; rw [if_neg h1, if_neg h2]
  have hrg : ∀ b, Gone (look st.objs) F o K b → W.o b ∧ b < w'.heap.size := fun b hb => by
    rcases hb with ⟨y, hy, h1⟩ | ⟨j, y, _, _, hy, h1⟩
    · have := h.range _ _ _ hy h1
      exact ⟨this.1, Nat.lt_of_lt_of_le this.2 hw.size⟩
    · have := h.range _ _ _ hy h1
      exact ⟨this.1, Nat.lt_of_lt_of_le this.2 hw.size⟩
  have hap : ∀ b j y, j ≠ o → ¬ K j → look st.objs j = some y → F j b → ¬ Gone (look st.objs) F o K b := fun b j y hj hK hy hf hb => by
    rcases hb with ⟨z, hz, h1⟩ | ⟨l, z, hl1, hl2, hz, h1⟩
    · exact h.apart j o _ _ b hj hy hz hf h1
    · exact h.apart j l _ _ b (fun e => hK (by rw [e]; exact hl2)) hy hz hf h1
  have g : Goes P w w' (look st.objs) (look objs') pl pl' (Free B W.o (look st.objs) F w) (Free B W.o (look objs') F'' w') := by
    refine ⟨fun b hb => ⟨hb.1, Nat.lt_of_lt_of_le hb.2.1 hw.size, fun i x hx hf => ?_⟩, fun b hb => hk b hb.2.1 fun x hx => hb.2.2 o x hx, fun i e b hi => ?_⟩
    · by_cases hi : i = o
      · subst hi
        rw [eo] at hf
        rcases hF b hf with h1 | ⟨y, hy, h1⟩ | ⟨j, y, _, _, hy, h1⟩
        · have := hb.2.1; omega
        · exact hb.2.2 _ _ hy h1
        · exact hb.2.2 _ _ hy h1
      · by_cases hK : K i
        · rw [ek i hi hK] at hf; exact hf
        · rw [en i hi hK] at hf
          rw [hlo i hi hK] at hx
          exact hb.2.2 _ _ hx hf
    · by_cases hi' : i = o
      · subst hi'
        refine ⟨ep, ob, hl, ?_⟩
        rcases hep _ _ hi with h1 | ⟨h1, h2, h3, h4⟩
        · exact .inl h1
        · exact .inr ⟨h1, (if_pos rfl).trans h2, h3, h4⟩
      · by_cases hK : K i
        · obtain ⟨e', b', h1, h2⟩ := hlk i hi' hK
          rw [hi] at h1
          cases h1
          exact ⟨_, _, h2, .inl (Nat.lt_succ_self _)⟩
        · refine ⟨e, b, (hlo i hi' hK).trans hi, .inr ⟨rfl, if_neg hi', rfl, rfl⟩⟩
  have hgone : ∀ b, Gone (look st.objs) F o K b → ¬ F' b → Free B W.o (look objs') F'' w' b := fun b hb hnf => by
    refine ⟨.inr (hrg b hb).1, (hrg b hb).2, fun i x hx hf => ?_⟩
    by_cases hi : i = o
    · subst hi
      rw [eo] at hf
      exact hnf hf
    · by_cases hK : K i
      · rw [ek i hi hK] at hf; exact hf
      · rw [en i hi hK] at hf
        rw [hlo i hi hK] at hx
        exact hap b i _ hi hK hx hf hb
  have hR : ∀ x u, Rd P w (Free B W.o (look st.objs) F w) x u → Rd P w' (Free B W.o (look objs') F'' w') x u := fun x u hx => hx.mono g.more g.heap
  refine ⟨pl', F'', ⟨h.old, h.size, h.defers, h.below.trans hw, fun i hi => (h.tmps i hi).goes g, fun i e b hi => ?_, fun i x b hi hf => ?_, fun i i' x x' b hne hi hi' hf hf' => ?_, fun i ob0 h0 e b hi => ?_⟩, if_pos rfl, g, hgone, en⟩
  · by_cases hi' : i = o
    · subst hi'
      rw [hl] at hi
      cases hi
      rw [eo, show pl' i = v' from if_pos rfl]
      exact hob _ _ _ g hgone hl (if_pos rfl)
    · by_cases hK : K i
      · obtain ⟨e', b', h1, h2⟩ := hlk i hi' hK
        rw [h2] at hi
        cases hi
        rw [ek i hi' hK]
        exact fun _ h => h
      · have hi0 := hi
        rw [hlo i hi' hK] at hi0
        rw [en i hi' hK, show pl' i = pl i from if_neg hi']
        refine (h.objs i e b hi0).goes (fun b hb => hk b (h.range i _ b hi0 hb).2 fun x hx hf => ?_) (fun _ _ hc => C0.goes g hc) hR
        exact h.apart i o _ _ b hi' hi0 hx hb hf
  · by_cases hi' : i = o
    · subst hi'
      rw [eo] at hf
      rcases hF b hf with h1 | h1
      · exact ⟨.inl (Nat.le_trans h.below.size h1.1), h1.2⟩
      · exact hrg b h1
    · by_cases hK : K i
      · rw [ek i hi' hK] at hf; exact hf.elim
      · rw [en i hi' hK] at hf
        rw [hlo i hi' hK] at hi
        have := h.range _ _ _ hi hf
        exact ⟨this.1, Nat.lt_of_lt_of_le this.2 hw.size⟩
  · have key : ∀ j y, j ≠ o → look objs' j = some y → F'' j b → F' b → False := fun j y hj hy hfj hfo => by
      by_cases hK : K j
      · rw [ek j hj hK] at hfj; exact hfj
      · rw [en j hj hK] at hfj
        rw [hlo j hj hK] at hy
        rcases hF b hfo with h1 | h1
        · have := (h.range _ _ _ hy hfj).2; omega
        · exact hap b j _ hj hK hy hfj h1
    by_cases h1 : i = o
    · subst h1
      rw [eo] at hf
      exact key i' _ (Ne.symm hne) hi' hf' hf
    · by_cases h2 : i' = o
      · subst h2
        rw [eo] at hf'
        exact key i _ h1 hi hf hf'
      · by_cases hK : K i
        · rw [ek i h1 hK] at hf; exact hf
        · by_cases hK' : K i'
          · rw [ek i' h2 hK'] at hf'; exact hf'
          · rw [en i h1 hK] at hf
            rw [en i' h2 hK'] at hf'
            rw [hlo i h1 hK] at hi
            rw [hlo i' h2 hK'] at hi'
            exact h.apart i i' _ _ b hne hi hi' hf hf'
  · by_cases hi' : i = o
    · subst hi'
      rw [hl] at hi
      cases hi
      cases hlo0 : look st.objs i with
      | none => exact .inl (hnone hlo0)
      | some x =>
        obtain ⟨e0, b0⟩ := x
        rcases hep _ _ hlo0 with h1 | ⟨h1, h2, h3, h4⟩
        · exact .inl (by omega)
        · rcases h.hist i ob0 h0 _ _ hlo0 with h5 | ⟨h5, h6, h7⟩
          · exact .inl (by omega)
          · exact .inr ⟨(if_pos rfl).trans (h2.trans h5), h3.trans h6, h4.trans h7⟩
    · by_cases hK : K i
      · obtain ⟨e', b', h1, h2⟩ := hlk i hi' hK
        rw [h2] at hi
        cases hi
        exact .inl (Nat.succ_pos _)
      · rw [hlo i hi' hK] at hi
        rcases h.hist i ob0 h0 _ _ hi with h5 | ⟨h5, h6⟩
        · exact .inl h5
        · exact .inr ⟨(if_neg hi').trans h5, h6⟩
end Go.Proofs.Ytmkpgcahmbancaa.Ab
