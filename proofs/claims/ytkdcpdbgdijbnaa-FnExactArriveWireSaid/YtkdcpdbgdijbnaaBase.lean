/- What is proved: general lemmas on typed data in memory (read, owned), used by all contracts of this seat.
   Conditions: none beyond those that each lemma names. -/
import Derived.WalkKit
import Derived.WalkSpells
import Derived.WalkLawsBesides
import Derived.ProofKit
import Derived.Laws.OwnMore
import Derived.Deep.Slices
import Derived.Deep.AppendLies
import Derived.Deep.Draws
import Derived.Lib.Hide
namespace Go.Proofs.Ytkdcpdbgdijbnaa
open Go.RowKit Go.ChangeShapes Go.WideShapes

/-! ### A slice that reads as a list of cells -/
theorem block_of_add (a : Addr) (n : Nat) : (a.add n).block = a.block := by unfold Addr.add; split <;> rfl
theorem add_of_add (a : Addr) (i j : Nat) : (a.add i).add j = a.add (i + j) := by
  unfold Addr.add
  by_cases hi : i = 0 <;> by_cases hj : j = 0 <;> simp [hi, hj, Nat.add_assoc]

def Reads (w : World) (B size : Nat) (A : Option Addr) (n : Nat) (xs : List Value) : Prop :=
  xs.length = n * size ∧ (0 < xs.length → ∃ ad, A = some ad ∧ ad.block < B ∧ ∀ j u, xs[j]? = some u → w.cell? (ad.add j) = some u)

section
variable {w w' : World} {B B' size n : Nat} {A : Option Addr} {xs : List Value}
theorem Reads.keep (h : Reads w B size A n xs) (hk : ∀ p : Addr, p.block < B → w'.cell? p = w.cell? p) : Reads w' B size A n xs :=
  ⟨h.1, fun hn => by
    obtain ⟨ad, e, hb, hc⟩ := h.2 hn
    exact ⟨ad, e, hb, fun j u hu => (hk _ (by rw [block_of_add]; exact hb)).trans (hc j u hu)⟩⟩
theorem Reads.more (h : Reads w B size A n xs) (hB : B ≤ B') : Reads w B' size A n xs :=
  ⟨h.1, fun hn => by
    obtain ⟨ad, e, hb, hc⟩ := h.2 hn
    exact ⟨ad, e, by omega, hc⟩⟩
end

/-! ### Types of data -/
inductive TY where
  | int (k : IntKind)
  | str
  | bool
  | slice (e : TypeId) (t : TY)
  | struct (f : TY)
  | unit
  | last (a : TY)
  | pair (a b : TY)

abbrev TY.V : TY → Type
  | .int _ => Int
  | .str => ByteArray
  | .bool => Bool
  | .slice _ t => List t.V
  | .struct f => f.V
  | .unit => Unit
  | .last a => a.V
  | .pair a b => a.V × b.V

def TY.sz : TY → Nat
  | .int _ => 1
  | .str => 1
  | .bool => 1
  | .slice _ _ => 1
  | .struct f => f.sz
  | .unit => 0
  | .last a => a.sz
  | .pair a b => a.sz + b.sz

def RdList {α : Type} (R : List Value → α → Prop) : List α → List Value → Prop
  | [], cs => cs = []
  | x :: xs, cs => ∃ c1 c2, cs = c1 ++ c2 ∧ R c1 x ∧ RdList R xs c2

def OwnList {α : Type} (R : List Nat → List Value → α → Prop) : List α → List Nat → List Value → Prop
  | [], fp, cs => fp = [] ∧ cs = []
  | x :: xs, fp, cs => ∃ f1 f2 c1 c2, fp = f1 ++ f2 ∧ cs = c1 ++ c2 ∧ R f1 c1 x ∧ OwnList R xs f2 c2

def SlRd {α : Type} (size : Nat) (R : List Value → α → Prop) (w : World) (B : Nat) (A : Option Addr) (n c : Nat) (xs : List α) : Prop :=
  xs.length = n ∧ n ≤ c ∧ c ≤ maxLen ∧ ∃ cs, Reads w B size A n cs ∧ RdList R xs cs

def SlOwn {α : Type} (z : Bool) (e : TypeId) (size : Nat) (S : List Nat → List Value → α → Prop) (w : World) (fp : List Nat) (A : Option Addr) (n c : Nat) (xs : List α) : Prop :=
  xs.length = n ∧ ((A = none ∧ n = 0 ∧ c = 0 ∧ fp = []) ∨
    ∃ g off cur fps, A = some ⟨g, off, none⟩ ∧ (z = true → off = 0) ∧ n ≤ c ∧ c ≤ maxLen ∧ w.heap[g]? = some (.cells cur e (0, 0)) ∧ cur.size = off + c * size ∧ fp = g :: fps ∧ OwnList S xs fps ((cur.toList.drop off).take (n * size)))

def TY.Rd : (t : TY) → World → Nat → List Value → t.V → Prop
  | .int k, _, _, cs, n => cs = [.int k n] ∧ (Lit.int k n).wf = true
  | .str, _, _, cs, s => cs = [.string s] ∧ s.size ≤ maxLen
  | .bool, _, _, cs, b => cs = [.bool b]
  | .slice _ t, w, B, cs, xs => ∃ A n c, cs = [.slice A n c] ∧ SlRd t.sz (t.Rd w B) w B A n c xs
  | .struct f, w, B, cs, x => f.Rd w B cs x
  | .unit, _, _, cs, _ => cs = []
  | .last a, w, B, cs, x => a.Rd w B cs x
  | .pair a b, w, B, cs, x => ∃ c1 c2, cs = c1 ++ c2 ∧ a.Rd w B c1 x.1 ∧ b.Rd w B c2 x.2

/-- Owned data, with the blocks it lies in (fp); z: every slice begins at its block's beginning. -/
def TY.Own (z : Bool) : (t : TY) → World → List Nat → List Value → t.V → Prop
  | .int k, _, fp, cs, n => fp = [] ∧ cs = [.int k n] ∧ (Lit.int k n).wf = true
  | .str, _, fp, cs, s => fp = [] ∧ cs = [.string s] ∧ s.size ≤ maxLen
  | .bool, _, fp, cs, b => fp = [] ∧ cs = [.bool b]
  | .slice e t, w, fp, cs, xs => ∃ A n c, cs = [.slice A n c] ∧ SlOwn z e t.sz (t.Own z w) w fp A n c xs
  | .struct f, w, fp, cs, x => f.Own z w fp cs x
  | .unit, _, fp, cs, _ => fp = [] ∧ cs = []
  | .last a, w, fp, cs, x => a.Own z w fp cs x
  | .pair a b, w, fp, cs, x => ∃ f1 f2 c1 c2, fp = f1 ++ f2 ∧ cs = c1 ++ c2 ∧ a.Own z w f1 c1 x.1 ∧ b.Own z w f2 c2 x.2

/-! ### Lists -/
section
variable {α : Type} {R R' : List Value → α → Prop} {S S' : List Nat → List Value → α → Prop}
theorem RdList.mono (h : ∀ c x, R c x → R' c x) : ∀ {xs : List α} {cs : List Value}, RdList R xs cs → RdList R' xs cs
  | [], _, hc => hc
  | _ :: _, _, ⟨c1, c2, e, h1, h2⟩ => ⟨c1, c2, e, h _ _ h1, RdList.mono h h2⟩
theorem OwnList.mono : ∀ {xs : List α} {fp : List Nat} {cs : List Value}, (∀ f c x, (∀ g ∈ f, g ∈ fp) → S f c x → S' f c x) → OwnList S xs fp cs → OwnList S' xs fp cs
  | [], _, _, _, hc => hc
  | _ :: _, _, _, h, ⟨f1, f2, c1, c2, e1, e2, h1, h2⟩ => ⟨f1, f2, c1, c2, e1, e2, h _ _ _ (by subst e1; simp; intro g hg; exact Or.inl hg) h1,
      OwnList.mono (fun f c x hf hs => h f c x (fun g hg => by subst e1; simp; exact Or.inr (hf g hg)) hs) h2⟩
theorem OwnList.rd : ∀ {xs : List α} {fp : List Nat} {cs : List Value}, (∀ f c x, (∀ g ∈ f, g ∈ fp) → S f c x → R c x) → OwnList S xs fp cs → RdList R xs cs
  | [], _, _, _, hc => hc.2
  | _ :: _, _, _, h, ⟨f1, f2, c1, c2, e1, e2, h1, h2⟩ => ⟨c1, c2, e2, h _ _ _ (by subst e1; simp; intro g hg; exact Or.inl hg) h1,
      OwnList.rd (fun f c x hf hs => h f c x (fun g hg => by subst e1; simp; exact Or.inr (hf g hg)) hs) h2⟩
theorem RdList.len {k : Nat} (h : ∀ c x, R c x → c.length = k) : ∀ {xs : List α} {cs : List Value}, RdList R xs cs → cs.length = xs.length * k
  | [], _, hc => by subst hc; simp
  | _ :: xs, _, ⟨c1, c2, e, h1, h2⟩ => by
    subst e
    rw [List.length_append, h _ _ h1, RdList.len h h2, List.length_cons, Nat.add_mul]
    omega
theorem RdList.append : ∀ {xs ys : List α} {cs ds : List Value}, RdList R xs cs → RdList R ys ds → RdList R (xs ++ ys) (cs ++ ds)
  | [], _, _, _, hc, hd => by subst hc; simpa using hd
  | _ :: _, _, _, _, ⟨c1, c2, e, h1, h2⟩, hd => ⟨c1, c2 ++ _, by subst e; simp, h1, RdList.append h2 hd⟩
theorem RdList.one {x : α} {cs : List Value} (h : R cs x) : RdList R [x] cs := ⟨cs, [], by simp, h, rfl⟩
theorem OwnList.append : ∀ {xs ys : List α} {f g : List Nat} {cs ds : List Value}, OwnList S xs f cs → OwnList S ys g ds → OwnList S (xs ++ ys) (f ++ g) (cs ++ ds)
  | [], _, _, _, _, _, hc, hd => by obtain ⟨rfl, rfl⟩ := hc; simpa using hd
  | _ :: _, _, _, _, _, _, ⟨f1, f2, c1, c2, e1, e2, h1, h2⟩, hd => ⟨f1, f2 ++ _, c1, c2 ++ _, by subst e1; simp, by subst e2; simp, h1, OwnList.append h2 hd⟩
theorem OwnList.one {x : α} {f : List Nat} {cs : List Value} (h : S f cs x) : OwnList S [x] f cs := ⟨f, [], cs, [], by simp, by simp, h, rfl, rfl⟩
end

/-! ### Reading -/
theorem TY.Rd.len : ∀ {t : TY} {w : World} {B : Nat} {cs : List Value} {x : t.V}, t.Rd w B cs x → cs.length = t.sz
  | .int _, _, _, _, _, h => by rw [h.1]; rfl
  | .str, _, _, _, _, h => by rw [h.1]; rfl
  | .bool, _, _, cs, x, h => by
    have : cs = [.bool x] := h
    rw [this]; rfl
  | .slice _ _, _, _, _, _, ⟨_, _, _, h, _⟩ => by rw [h]; rfl
  | .struct f, _, _, _, _, h => TY.Rd.len (t := f) h
  | .unit, _, _, cs, _, h => by
    have : cs = [] := h
    rw [this]; rfl
  | .last a, _, _, _, _, h => TY.Rd.len (t := a) h
  | .pair a b, _, _, _, _, ⟨c1, c2, e, h1, h2⟩ => by
    subst e
    rw [List.length_append, TY.Rd.len (t := a) h1, TY.Rd.len (t := b) h2]; rfl

theorem TY.Rd.keep : ∀ {t : TY} {w w' : World} {B : Nat} {cs : List Value} {x : t.V}, (∀ p : Addr, p.block < B → w'.cell? p = w.cell? p) → t.Rd w B cs x → t.Rd w' B cs x
  | .int _, _, _, _, _, _, _, h => h
  | .str, _, _, _, _, _, _, h => h
  | .bool, _, _, _, _, _, _, h => h
  | .slice _ t, _, _, _, _, _, hk, ⟨A, n, c, e, h1, h2, h3, cs', h4, h5⟩ => ⟨A, n, c, e, h1, h2, h3, cs', h4.keep hk, h5.mono fun _ _ h => TY.Rd.keep (t := t) hk h⟩
  | .struct f, _, _, _, _, _, hk, h => TY.Rd.keep (t := f) hk h
  | .unit, _, _, _, _, _, _, h => h
  | .last a, _, _, _, _, _, hk, h => TY.Rd.keep (t := a) hk h
  | .pair a b, _, _, _, _, _, hk, ⟨c1, c2, e, h1, h2⟩ => ⟨c1, c2, e, TY.Rd.keep (t := a) hk h1, TY.Rd.keep (t := b) hk h2⟩

theorem TY.Rd.more : ∀ {t : TY} {w : World} {B B' : Nat} {cs : List Value} {x : t.V}, B ≤ B' → t.Rd w B cs x → t.Rd w B' cs x
  | .int _, _, _, _, _, _, _, h => h
  | .str, _, _, _, _, _, _, h => h
  | .bool, _, _, _, _, _, _, h => h
  | .slice _ t, _, _, _, _, _, hk, ⟨A, n, c, e, h1, h2, h3, cs', h4, h5⟩ => ⟨A, n, c, e, h1, h2, h3, cs', h4.more hk, h5.mono fun _ _ h => TY.Rd.more (t := t) hk h⟩
  | .struct f, _, _, _, _, _, hk, h => TY.Rd.more (t := f) hk h
  | .unit, _, _, _, _, _, _, h => h
  | .last a, _, _, _, _, _, hk, h => TY.Rd.more (t := a) hk h
  | .pair a b, _, _, _, _, _, hk, ⟨c1, c2, e, h1, h2⟩ => ⟨c1, c2, e, TY.Rd.more (t := a) hk h1, TY.Rd.more (t := b) hk h2⟩

section
variable {t : TY} {w w' : World} {B B' : Nat} {cs : List Value} {x : t.V}
theorem TY.Rd.below (h : t.Rd w B cs x) (hb : Below B' w w') (hB : B ≤ B') : t.Rd w' B cs x := h.keep fun p hp => hb.cell (p := p) (by omega)
theorem TY.Rd.alloc (h : t.Rd w B cs x) (hB : B ≤ w.heap.size) (o : Obj) : t.Rd (w.alloc o) B cs x := h.keep fun p hp => World.cell?_alloc_lt w o p (by omega)
theorem TY.Rd.drew (h : t.Rd w B cs x) : t.Rd w.drew B cs x := TY.Rd.keep (w := w) (fun _ _ => rfl) h
theorem TY.Rd.drewN (h : t.Rd w B cs x) (k : Nat) : t.Rd (w.drewN k) B cs x := TY.Rd.keep (w := w) (fun _ _ => rfl) h
end

/-! ### Stores into a world of which little is known -/
def huntT : TY := .struct (.pair (.int .i64) (.pair (.int .i64) (.pair (.int .i64) .unit)))
def paceT : TY := .struct (.pair (.int .i64) (.pair (.int .i64) (.pair (.int .i64) (.pair (.int .i64) (.pair (.int .i64) .unit)))))
def faultT : TY := .struct (.pair (.int .i64) (.pair (.int .i64) (.pair (.int .i64) .unit)))
def intsT (e : TypeId) : TY := .slice e (.int .i64)
end Go.Proofs.Ytkdcpdbgdijbnaa
