/- What is proved: the frame of every statement of this seat: a law's walk that ends in true, and leaves old memory as it was, gives the statement; a reading of an argument as typed data.
   Conditions: none beyond those that each lemma names. -/
import Derived.WalkKit
import Derived.WalkSpells
import Derived.WalkLawsBesides
import Derived.ProofKit
import Derived.Laws.OwnMore
import Derived.Deep.Slices
import Derived.Deep.AppendLies
import Derived.Deep.Draws
import Derived.Lib.Hide
namespace Go.Proofs.Ytmkpgcahmbancaa
set_option linter.unusedSimpArgs false
set_option linter.unusedVariables false
open Go.RowKit Go.ChangeShapes Go.WideShapes

/-! ### A slice that reads as a list of cells -/
theorem block_of_add (a : Addr) (n : Nat) : (a.add n).block = a.block := by unfold Addr.add; split <;> rfl
theorem add_of_add (a : Addr) (i j : Nat) : (a.add i).add j = a.add (i + j) := by
  unfold Addr.add
  by_cases hi : i = 0 <;> by_cases hj : j = 0 <;> simp [hi, hj, Nat.add_assoc]

def Reads (w : World) (B size : Nat) (A : Option Addr) (n : Nat) (xs : List Value) : Prop :=
  xs.length = n * size ∧ (0 < xs.length → ∃ ad, A = some ad ∧ ad.block < B ∧ ∀ j u, xs[j]? = some u → w.cell? (ad.add j) = some u)

section
variable {w w' : World} {B B' size n : Nat} {A : Option Addr} {xs : List Value}
theorem Reads.keep (h : Reads w B size A n xs) (hk : ∀ p : Addr, p.block < B → w'.cell? p = w.cell? p) : Reads w' B size A n xs :=
  ⟨h.1, fun hn => by
    obtain ⟨ad, e, hb, hc⟩ := h.2 hn
    exact ⟨ad, e, hb, fun j u hu => (hk _ (by rw [block_of_add]; exact hb)).trans (hc j u hu)⟩⟩
theorem Reads.more (h : Reads w B size A n xs) (hB : B ≤ B') : Reads w B' size A n xs :=
  ⟨h.1, fun hn => by
    obtain ⟨ad, e, hb, hc⟩ := h.2 hn
    exact ⟨ad, e, by omega, hc⟩⟩
end

/-! ### Types of data -/
inductive TY where
  | int (k : IntKind)
  | str
  | bool
  | slice (e : TypeId) (t : TY)
  | struct (f : TY)
  | unit
  | last (a : TY)
  | pair (a b : TY)

abbrev TY.V : TY → Type
  | .int _ => Int
  | .str => ByteArray
  | .bool => Bool
  | .slice _ t => List t.V
  | .struct f => f.V
  | .unit => Unit
  | .last a => a.V
  | .pair a b => a.V × b.V

def TY.sz : TY → Nat
  | .int _ => 1
  | .str => 1
  | .bool => 1
  | .slice _ _ => 1
  | .struct f => f.sz
  | .unit => 0
  | .last a => a.sz
  | .pair a b => a.sz + b.sz

def RdList {α : Type} (R : List Value → α → Prop) : List α → List Value → Prop
  | [], cs => cs = []
  | x :: xs, cs => ∃ c1 c2, cs = c1 ++ c2 ∧ R c1 x ∧ RdList R xs c2

def OwnList {α : Type} (R : List Nat → List Value → α → Prop) : List α → List Nat → List Value → Prop
  | [], fp, cs => fp = [] ∧ cs = []
  | x :: xs, fp, cs => ∃ f1 f2 c1 c2, fp = f1 ++ f2 ∧ cs = c1 ++ c2 ∧ R f1 c1 x ∧ OwnList R xs f2 c2

def SlRd {α : Type} (size : Nat) (R : List Value → α → Prop) (w : World) (B : Nat) (A : Option Addr) (n c : Nat) (xs : List α) : Prop :=
  xs.length = n ∧ n ≤ c ∧ c ≤ maxLen ∧ ∃ cs, Reads w B size A n cs ∧ RdList R xs cs

def SlOwn {α : Type} (z : Bool) (e : TypeId) (size : Nat) (S : List Nat → List Value → α → Prop) (w : World) (fp : List Nat) (A : Option Addr) (n c : Nat) (xs : List α) : Prop :=
  xs.length = n ∧ ((A = none ∧ n = 0 ∧ c = 0 ∧ fp = []) ∨
    ∃ g off cur fps, A = some ⟨g, off, none⟩ ∧ (z = true → off = 0) ∧ n ≤ c ∧ c ≤ maxLen ∧ w.heap[g]? = some (.cells cur e (0, 0)) ∧ cur.size = off + c * size ∧ fp = g :: fps ∧ OwnList S xs fps ((cur.toList.drop off).take (n * size)))

def TY.Rd : (t : TY) → World → Nat → List Value → t.V → Prop
  | .int k, _, _, cs, n => cs = [.int k n] ∧ (Lit.int k n).wf = true
  | .str, _, _, cs, s => cs = [.string s] ∧ s.size ≤ maxLen
  | .bool, _, _, cs, b => cs = [.bool b]
  | .slice _ t, w, B, cs, xs => ∃ A n c, cs = [.slice A n c] ∧ SlRd t.sz (t.Rd w B) w B A n c xs
  | .struct f, w, B, cs, x => f.Rd w B cs x
  | .unit, _, _, cs, _ => cs = []
  | .last a, w, B, cs, x => a.Rd w B cs x
  | .pair a b, w, B, cs, x => ∃ c1 c2, cs = c1 ++ c2 ∧ a.Rd w B c1 x.1 ∧ b.Rd w B c2 x.2

/-- Owned data, with the blocks it lies in (fp); z: every slice begins at its block's beginning. -/
def TY.Own (z : Bool) : (t : TY) → World → List Nat → List Value → t.V → Prop
  | .int k, _, fp, cs, n => fp = [] ∧ cs = [.int k n] ∧ (Lit.int k n).wf = true
  | .str, _, fp, cs, s => fp = [] ∧ cs = [.string s] ∧ s.size ≤ maxLen
  | .bool, _, fp, cs, b => fp = [] ∧ cs = [.bool b]
  | .slice e t, w, fp, cs, xs => ∃ A n c, cs = [.slice A n c] ∧ SlOwn z e t.sz (t.Own z w) w fp A n c xs
  | .struct f, w, fp, cs, x => f.Own z w fp cs x
  | .unit, _, fp, cs, _ => fp = [] ∧ cs = []
  | .last a, w, fp, cs, x => a.Own z w fp cs x
  | .pair a b, w, fp, cs, x => ∃ f1 f2 c1 c2, fp = f1 ++ f2 ∧ cs = c1 ++ c2 ∧ a.Own z w f1 c1 x.1 ∧ b.Own z w f2 c2 x.2

/-! ### Lists -/
section
variable {α : Type} {R R' : List Value → α → Prop} {S S' : List Nat → List Value → α → Prop}
theorem RdList.mono (h : ∀ c x, R c x → R' c x) : ∀ {xs : List α} {cs : List Value}, RdList R xs cs → RdList R' xs cs
  | [], _, hc => hc
  | _ :: _, _, ⟨c1, c2, e, h1, h2⟩ => ⟨c1, c2, e, h _ _ h1, RdList.mono h h2⟩
theorem OwnList.mono : ∀ {xs : List α} {fp : List Nat} {cs : List Value}, (∀ f c x, (∀ g ∈ f, g ∈ fp) → S f c x → S' f c x) → OwnList S xs fp cs → OwnList S' xs fp cs
  | [], _, _, _, hc => hc
  | _ :: _, _, _, h, ⟨f1, f2, c1, c2, e1, e2, h1, h2⟩ => ⟨f1, f2, c1, c2, e1, e2, h _ _ _ (by subst e1; simp; intro g hg; exact Or.inl hg) h1,
      OwnList.mono (fun f c x hf hs => h f c x (fun g hg => by subst e1; simp; exact Or.inr (hf g hg)) hs) h2⟩
theorem OwnList.rd : ∀ {xs : List α} {fp : List Nat} {cs : List Value}, (∀ f c x, (∀ g ∈ f, g ∈ fp) → S f c x → R c x) → OwnList S xs fp cs → RdList R xs cs
  | [], _, _, _, hc => hc.2
  | _ :: _, _, _, h, ⟨f1, f2, c1, c2, e1, e2, h1, h2⟩ => ⟨c1, c2, e2, h _ _ _ (by subst e1; simp; intro g hg; exact Or.inl hg) h1,
      OwnList.rd (fun f c x hf hs => h f c x (fun g hg => by subst e1; simp; exact Or.inr (hf g hg)) hs) h2⟩
theorem RdList.len {k : Nat} (h : ∀ c x, R c x → c.length = k) : ∀ {xs : List α} {cs : List Value}, RdList R xs cs → cs.length = xs.length * k
  | [], _, hc => by subst hc; simp
  | _ :: xs, _, ⟨c1, c2, e, h1, h2⟩ => by
    subst e
    rw [List.length_append, h _ _ h1, RdList.len h h2, List.length_cons, Nat.add_mul]
    omega
theorem RdList.append : ∀ {xs ys : List α} {cs ds : List Value}, RdList R xs cs → RdList R ys ds → RdList R (xs ++ ys) (cs ++ ds)
  | [], _, _, _, hc, hd => by subst hc; simpa using hd
  | _ :: _, _, _, _, ⟨c1, c2, e, h1, h2⟩, hd => ⟨c1, c2 ++ _, by subst e; simp, h1, RdList.append h2 hd⟩
theorem RdList.one {x : α} {cs : List Value} (h : R cs x) : RdList R [x] cs := ⟨cs, [], by simp, h, rfl⟩
theorem OwnList.append : ∀ {xs ys : List α} {f g : List Nat} {cs ds : List Value}, OwnList S xs f cs → OwnList S ys g ds → OwnList S (xs ++ ys) (f ++ g) (cs ++ ds)
  | [], _, _, _, _, _, hc, hd => by obtain ⟨rfl, rfl⟩ := hc; simpa using hd
  | _ :: _, _, _, _, _, _, ⟨f1, f2, c1, c2, e1, e2, h1, h2⟩, hd => ⟨f1, f2 ++ _, c1, c2 ++ _, by subst e1; simp, by subst e2; simp, h1, OwnList.append h2 hd⟩
theorem OwnList.one {x : α} {f : List Nat} {cs : List Value} (h : S f cs x) : OwnList S [x] f cs := ⟨f, [], cs, [], by simp, by simp, h, rfl, rfl⟩
end

/-! ### Reading -/
theorem TY.Rd.len : ∀ {t : TY} {w : World} {B : Nat} {cs : List Value} {x : t.V}, t.Rd w B cs x → cs.length = t.sz
  | .int _, _, _, _, _, h => by rw [h.1]; rfl
  | .str, _, _, _, _, h => by rw [h.1]; rfl
  | .bool, _, _, cs, x, h => by
    have : cs = [.bool x] := h
    rw [this]; rfl
  | .slice _ _, _, _, _, _, ⟨_, _, _, h, _⟩ => by rw [h]; rfl
  | .struct f, _, _, _, _, h => TY.Rd.len (t := f) h
  | .unit, _, _, cs, _, h => by
    have : cs = [] := h
    rw [this]; rfl
  | .last a, _, _, _, _, h => TY.Rd.len (t := a) h
  | .pair a b, _, _, _, _, ⟨c1, c2, e, h1, h2⟩ => by
    subst e
    rw [List.length_append, TY.Rd.len (t := a) h1, TY.Rd.len (t := b) h2]; rfl

theorem TY.Rd.keep : ∀ {t : TY} {w w' : World} {B : Nat} {cs : List Value} {x : t.V}, (∀ p : Addr, p.block < B → w'.cell? p = w.cell? p) → t.Rd w B cs x → t.Rd w' B cs x
  | .int _, _, _, _, _, _, _, h => h
  | .str, _, _, _, _, _, _, h => h
  | .bool, _, _, _, _, _, _, h => h
  | .slice _ t, _, _, _, _, _, hk, ⟨A, n, c, e, h1, h2, h3, cs', h4, h5⟩ => ⟨A, n, c, e, h1, h2, h3, cs', h4.keep hk, h5.mono fun _ _ h => TY.Rd.keep (t := t) hk h⟩
  | .struct f, _, _, _, _, _, hk, h => TY.Rd.keep (t := f) hk h
  | .unit, _, _, _, _, _, _, h => h
  | .last a, _, _, _, _, _, hk, h => TY.Rd.keep (t := a) hk h
  | .pair a b, _, _, _, _, _, hk, ⟨c1, c2, e, h1, h2⟩ => ⟨c1, c2, e, TY.Rd.keep (t := a) hk h1, TY.Rd.keep (t := b) hk h2⟩

theorem TY.Rd.more : ∀ {t : TY} {w : World} {B B' : Nat} {cs : List Value} {x : t.V}, B ≤ B' → t.Rd w B cs x → t.Rd w B' cs x
  | .int _, _, _, _, _, _, _, h => h
  | .str, _, _, _, _, _, _, h => h
  | .bool, _, _, _, _, _, _, h => h
  | .slice _ t, _, _, _, _, _, hk, ⟨A, n, c, e, h1, h2, h3, cs', h4, h5⟩ => ⟨A, n, c, e, h1, h2, h3, cs', h4.more hk, h5.mono fun _ _ h => TY.Rd.more (t := t) hk h⟩
  | .struct f, _, _, _, _, _, hk, h => TY.Rd.more (t := f) hk h
  | .unit, _, _, _, _, _, _, h => h
  | .last a, _, _, _, _, _, hk, h => TY.Rd.more (t := a) hk h
  | .pair a b, _, _, _, _, _, hk, ⟨c1, c2, e, h1, h2⟩ => ⟨c1, c2, e, TY.Rd.more (t := a) hk h1, TY.Rd.more (t := b) hk h2⟩

section
variable {t : TY} {w w' : World} {B B' : Nat} {cs : List Value} {x : t.V}
theorem TY.Rd.below (h : t.Rd w B cs x) (hb : Below B' w w') (hB : B ≤ B') : t.Rd w' B cs x := h.keep fun p hp => hb.cell (p := p) (by omega)
theorem TY.Rd.alloc (h : t.Rd w B cs x) (hB : B ≤ w.heap.size) (o : Obj) : t.Rd (w.alloc o) B cs x := h.keep fun p hp => World.cell?_alloc_lt w o p (by omega)
theorem TY.Rd.drew (h : t.Rd w B cs x) : t.Rd w.drew B cs x := TY.Rd.keep (w := w) (fun _ _ => rfl) h
theorem TY.Rd.drewN (h : t.Rd w B cs x) (k : Nat) : t.Rd (w.drewN k) B cs x := TY.Rd.keep (w := w) (fun _ _ => rfl) h
end

/-! ### Stores into a world of which little is known -/
def huntT : TY := .struct (.pair (.int .i64) (.pair (.int .i64) (.pair (.int .i64) .unit)))
def paceT : TY := .struct (.pair (.int .i64) (.pair (.int .i64) (.pair (.int .i64) (.pair (.int .i64) (.pair (.int .i64) .unit)))))
def faultT : TY := .struct (.pair (.int .i64) (.pair (.int .i64) (.pair (.int .i64) .unit)))
def intsT (e : TypeId) : TY := .slice e (.int .i64)
end Go.Proofs.Ytmkpgcahmbancaa
namespace Go.Proofs.Ytmkpgcahmbancaa
set_option linter.unusedSimpArgs false
set_option linter.unusedVariables false
open Go.RowKit Go.ChangeShapes Go.WideShapes

section
variable {H : Type} {enc : TypeId × Value → H} {P : Program}

theorem trodAll_below (hl : laidOutB P = true) {W W' : World} (hb : Below W.heap.size W W') : ∀ {ts : List TypeId} {vs : List Value} {ds : List (DataW H)} {ps : List MemPlace},
    (ts.all fun t => P.readableRec t && decide (t < P.types.size)) = true → DataW.TrodAll enc P W 0 (fun _ => true) true ts vs ds ps → (∀ x ∈ ps, x.block < W.heap.size) →
    DataW.TrodAll enc P W' 0 (fun b => decide (b < W.heap.size)) true ts vs ds ps
  | [], [], [], _, _, h, _ => h
  | t :: ts, v :: vs, d :: ds, ps, ha, h, hlt => by
    obtain ⟨p, q, h1, h2, e⟩ := h
    rw [List.all_cons, Bool.and_eq_true, Bool.and_eq_true] at ha
    subst e
    exact ⟨p, q, Below.trod hl ha.1.1 (of_decide_eq_true ha.1.2) h1 hb (fun x hx => hlt x (by simp [hx])), trodAll_below hl hb ha.2 h2 (fun x hx => hlt x (by simp [hx])), rfl⟩
  | [], _ :: _, _, _, _, h, _ => by cases h
  | [], [], _ :: _, _, _, h, _ => by cases h
  | _ :: _, [], _, _, _, h, _ => by cases h
  | _ :: _, _ :: _, [], _, _, h, _ => by cases h

theorem law_post {f : Func} {s : ChangeSpec} {W W' : World} {args : Array Value} {ds gs : List (DataW H)} {before : List MemPlace} (hl : laidOutB P = true)
    (hps : (f.params.toList.all fun t => P.readableRec t && decide (t < P.types.size)) = true) {tb : TypeId} (hrt : f.resultTypes = #[tb]) (hbt : P.underlying tb = some .bool) (hv : s.vars = [])
    (hs : s.fn H ds = { results := [.lit (.bool true)], args := ds, vars := [] })
    (hW : DataW.Whole enc P f.params.toList s.vars false W args.toList ds gs before) (hb : Below W.heap.size W W') :
    s.post enc P f false true false false W args (.bool true) W' := by
  have hW' := hW
  obtain ⟨p, q, hA, hV, e, hfz, hnd⟩ := hW
  have hgs : gs = [] ∧ q = [] := by
    rw [hv] at hV
    cases gs with
    | nil => exact ⟨rfl, hV⟩
    | cons g gs => cases hV
  obtain ⟨rfl, rfl⟩ := hgs
  have hlt : ∀ x ∈ p, x.block < W.heap.size := fun x hx => hW'.lt x (by rw [e]; simp [hx])
  refine ⟨ds, [], before, [], p, [], hW', ?_, ?_, ?_, hb.frame _, fun h => by cases h⟩
  · rw [hrt, List.append_nil, hs]
    exact trodAll_mk1 (shut_bool hbt true)
  · rw [List.append_nil, hs]
    exact trodAll_below hl hb hps hA hlt
  · rw [List.append_nil, hs, hv]
    rfl

theorem law_lift {C : Checked} {os : Os} {f : FuncId} {fn : Func} {s : ChangeSpec} (own : ownKnob C.prog.godebug = none) (started : os.Started) (noInit : C.prog.inits.idxOf? f = none) (hfn : C.prog.funcs[f]? = some fn)
    (hl : laidOutB C.prog = true) (hps : (fn.params.toList.all fun t => C.prog.readableRec t && decide (t < C.prog.types.size)) = true) {tb : TypeId} (hrt : fn.resultTypes = #[tb]) (hbt : C.prog.underlying tb = some .bool)
    (hv : s.vars = []) (hs : ∀ (W : World) (vs : List Value) (ds : List (DataW H)) (ps : List MemPlace), DataW.TrodAll enc C.prog W 0 (fun _ => true) true fn.params.toList vs ds ps → s.fn H ds = { results := [.lit (.bool true)], args := ds, vars := [] })
    (witness : ∃ (w : World) (tape : Tape) (i : Input), w.os = os ∧ (w.forCall tape i).Shaped C.prog ∧ i.vars = [] ∧ Input.okWide C.prog (w.forCall tape i) .any w.heap.size f i ∧
      s.pre6 enc C.prog fn [] false (w.forCall tape i).memory i.args ∧ ({} : Assume).holds C.prog (lone (Frame.enter C.prog f i.args .normal) [] (w.forCall tape i)))
    (contract : ∀ (W : World) (base : Nat) (args : Array Value) (ds : List (DataW H)) (p : List MemPlace), (∀ (j : Nat) t v, fn.params[j]? = some t → args[j]? = some v → Value.okWide C.prog W .any base t v) → DataW.TrodAll enc C.prog W 0 (fun _ => true) true fn.params.toList args.toList ds p → (∀ x ∈ p, x.block < W.heap.size) →
      Calls C.prog f args W fun e W' => e = .returned (.bool true) ∧ Below W.heap.size W W') :
    ReturnsInHanded {} C os f .any (s.pre6 enc C.prog fn [] false) (s.post enc C.prog fn false true false false) := by
  refine returnsInHanded_of_change own started noInit hfn witness ?_
  intro W base args ds gs before hok hW _ _
  have hW' := hW
  obtain ⟨p, q, hA, hV, e, _, _⟩ := hW
  refine (contract W base args ds p hok hA (fun x hx => hW'.lt x (by rw [e]; simp [hx]))).mono fun e W' ⟨he, hb⟩ => ?_
  exact ⟨_, he, law_post hl hps hrt hbt hv (hs W _ _ _ hA) hW' hb⟩
end

/-! ### From a reading of an argument to typed data -/
def TY.fits (P : Program) : TY → Option (List Field × Nat) → TypeId → Bool
  | .int k, none, t => match P.underlying t with | some (.int k') => decide (k' = k) | _ => false
  | .str, none, t => match P.underlying t with | some .string => true | _ => false
  | .bool, none, t => match P.underlying t with | some .bool => true | _ => false
  | .slice _ t', none, t => match P.underlying t with | some (.slice e) => decide (P.cellsOf e = t'.sz) && t'.fits P none e | _ => false
  | .struct f, none, t => match P.underlying t with | some (.struct fs) => decide (P.cellsOf t = f.sz) && f.fits P (some (fs.toList, 0)) 0 | _ => false
  | .unit, some ([], _), _ => true
  | .last a, some ([f], o), _ => decide (f.offset = o) && decide (P.cellsOf f.type = a.sz) && a.fits P none f.type
  | .pair a b, some (f :: fs, o), _ => decide (f.offset = o) && decide (P.cellsOf f.type = a.sz) && a.fits P none f.type && b.fits P (some (fs, o + a.sz)) 0
  | _, _, _ => false

theorem list_of_each {α : Type} {R : List Value → α → Prop} {w : World} {ad : Addr} {k : Nat} : ∀ (n : Nat), (∀ i, i < n → ∃ c x, R c x ∧ c.length = k ∧ ∀ j u, c[j]? = some u → w.cell? (ad.add (i * k + j)) = some u) →
    ∃ (xs : List α) (cs : List Value), xs.length = n ∧ cs.length = n * k ∧ RdList R xs cs ∧ ∀ j u, cs[j]? = some u → w.cell? (ad.add j) = some u
  | 0, _ => ⟨[], [], rfl, by simp, rfl, fun j u h => by simp at h⟩
  | n + 1, h => by
    obtain ⟨xs, cs, h1, h2, h3, h4⟩ := list_of_each n fun i hi => h i (by omega)
    obtain ⟨c, x, hc, hk, hu⟩ := h n (by omega)
    refine ⟨xs ++ [x], cs ++ c, by simp [h1], by rw [List.length_append, h2, hk, Nat.add_mul]; omega, h3.append (RdList.one hc), fun j u hj => ?_⟩
    by_cases hlt : j < cs.length
    · exact h4 j u (by rwa [List.getElem?_append_left hlt] at hj)
    · rw [List.getElem?_append_right (by omega), h2] at hj
      have := hu _ u hj
      rwa [show n * k + (j - n * k) = j by omega] at this

section
variable {H : Type} {enc : TypeId × Value → H} {P : Program} {w : World} {spare : Nat → Bool} {held : Bool}

theorem open_rd_both : ∀ (T : TY),
    (∀ (t : TypeId) (fuel : Nat) (cs : List Value) (d : DataW H × List MemPlace), T.fits P none t = true → DataW.trod enc P w 0 spare held fuel t cs = some d → ∃ x, T.Rd w w.heap.size cs x) ∧
    (∀ (fs : List Field) (o n : Nat) (t : TypeId) (cs : List Value), T.fits P (some (fs, o)) t = true → cs.length = o + T.sz →
      (∀ f ∈ fs, ∃ d, DataW.trod enc P w 0 spare held n f.type ((cs.drop f.offset).take (P.cellsOf f.type)) = some d) → ∃ x, T.Rd w w.heap.size (cs.drop o) x)
  | .int k => by
    refine ⟨fun t fuel cs d hf h => ?_, fun fs o n t cs hf => ?_⟩
    · unfold TY.fits at hf
      split at hf
      · rename_i k' hk
        have e : k' = k := of_decide_eq_true hf
        subst e
        obtain ⟨m, rfl, _, hw⟩ := DataW.trod_int hk h
        exact ⟨m, rfl, hw⟩
      · cases hf
    · unfold TY.fits at hf
      cases hf
  | .str => by
    refine ⟨fun t fuel cs d hf h => ?_, fun fs o n t cs hf => ?_⟩
    · unfold TY.fits at hf
      split at hf
      · rename_i hk
        cases fuel with
        | zero => simp [DataW.trod] at h
        | succ n =>
          unfold DataW.trod at h
          rw [hk] at h
          split at h <;> simp_all
          rename_i s
          exact ⟨s, rfl, h.1⟩
      · cases hf
    · unfold TY.fits at hf
      cases hf
  | .bool => by
    refine ⟨fun t fuel cs d hf h => ?_, fun fs o n t cs hf => ?_⟩
    · unfold TY.fits at hf
      split at hf
      · rename_i hk
        cases fuel with
        | zero => simp [DataW.trod] at h
        | succ n =>
          unfold DataW.trod at h
          rw [hk] at h
          split at h <;> simp_all
          rename_i b
          cases b
          · exact Or.inl rfl
          · exact Or.inr rfl
      · cases hf
    · unfold TY.fits at hf
      cases hf
  | .slice e' T => by
    refine ⟨fun t fuel cs d hf h => ?_, fun fs o n t cs hf => ?_⟩
    · unfold TY.fits at hf
      split at hf
      · rename_i e hk
        rw [Bool.and_eq_true] at hf
        have hsz : P.cellsOf e = T.sz := of_decide_eq_true hf.1
        rcases Go.Deep.open_slice hk h with ⟨rfl, _⟩ | ⟨a, len, cap, m, n, D, Pl, rfl, _, hl, hm, hmm, _, hi⟩
        · exact ⟨[], none, 0, 0, rfl, rfl, by simp, by simp, [], ⟨by simp, fun h => absurd h (by simp)⟩, rfl⟩
        · have hlm : len ≤ m := by rw [hmm]; split <;> omega
          obtain ⟨xs, cs, h1, h2, h3, h4⟩ := list_of_each (R := T.Rd w w.heap.size) (w := w) (ad := a) (k := T.sz) len fun i hi' => by
            obtain ⟨cs', hc, ht⟩ := hi i (by omega)
            obtain ⟨x, hx⟩ := (open_rd_both T).1 _ _ _ _ hf.2 ht
            rw [hsz] at hc
            obtain ⟨_, hcl, hat⟩ := World.cells?_some hc
            refine ⟨cs', x, hx, hx.len, fun j u hj => ?_⟩
            have hj' : j < T.sz := by have := (List.getElem?_eq_some_iff.1 hj).1; rw [hx.len] at this; exact this
            rw [← Go.Deep.add_add, hat j hj', hj]
          subst h1
          refine ⟨xs, some a, xs.length, cap, rfl, rfl, hl, hm, cs, ⟨h2, fun hne => ⟨a, rfl, ?_, h4⟩⟩, h3⟩
          have := h4 0 _ (List.getElem?_eq_getElem hne)
          have hb := World.block_lt_of_cell? w _ this
          rwa [block_of_add] at hb
      · cases hf
    · unfold TY.fits at hf
      cases hf
  | .struct f => by
    refine ⟨fun t fuel cs d hf h => ?_, fun fs o n t cs hf => ?_⟩
    · unfold TY.fits at hf
      split at hf
      · rename_i fs hk
        rw [Bool.and_eq_true] at hf
        have hsz : P.cellsOf t = f.sz := of_decide_eq_true hf.1
        obtain ⟨xs, n, _, _, hl, hx, hg⟩ := DataW.trod_struct hk h
        have := (open_rd_both f).2 fs.toList 0 n 0 cs hf.2 (by rw [hl, hsz]; simp) (by
          intro g hgm
          obtain ⟨i, hi, rfl⟩ := List.getElem_of_mem hgm
          have h1 := hg i _ (by rw [← Array.getElem?_toList]; exact List.getElem?_eq_getElem hi)
          have h2 : i < xs.length := by rw [hx]; simpa using hi
          rw [List.getElem?_eq_getElem h2] at h1
          exact ⟨_, h1⟩)
        rw [List.drop_zero] at this
        exact this
      · cases hf
    · unfold TY.fits at hf
      cases hf
  | .unit => by
    refine ⟨fun t fuel cs d hf h => ?_, fun fs o n t cs hf hl _ => ?_⟩
    · unfold TY.fits at hf
      cases hf
    · have : cs.length ≤ o := by rw [hl]; simp [TY.sz]
      exact ⟨(), List.drop_eq_nil_of_le this⟩
  | .last a => by
    refine ⟨fun t fuel cs d hf h => ?_, fun fs o n t cs hf hl hfs => ?_⟩
    · unfold TY.fits at hf
      cases hf
    · match fs, hf with
      | [f], hf =>
        unfold TY.fits at hf
        simp only [Bool.and_eq_true, decide_eq_true_eq] at hf
        obtain ⟨⟨h1, h2⟩, h3⟩ := hf
        obtain ⟨d, hd⟩ := hfs f (by simp)
        obtain ⟨x, hx⟩ := (open_rd_both a).1 _ _ _ _ h3 hd
        have hl' : cs.length = o + a.sz := hl
        refine ⟨x, ?_⟩
        rw [h1, h2, List.take_of_length_le (by simp; omega)] at hx
        exact hx
      | [], hf => unfold TY.fits at hf; cases hf
      | _ :: _ :: _, hf => unfold TY.fits at hf; cases hf
  | .pair a b => by
    refine ⟨fun t fuel cs d hf h => ?_, fun fs o n t cs hf hl hfs => ?_⟩
    · unfold TY.fits at hf
      cases hf
    · cases fs with
      | nil => unfold TY.fits at hf; cases hf
      | cons f fs =>
        unfold TY.fits at hf
        simp only [Bool.and_eq_true, decide_eq_true_eq] at hf
        obtain ⟨⟨⟨h1, h2⟩, h3⟩, h4⟩ := hf
        obtain ⟨d, hd⟩ := hfs f (by simp)
        obtain ⟨x, hx⟩ := (open_rd_both a).1 _ _ _ _ h3 hd
        have hl' : cs.length = o + (a.sz + b.sz) := hl
        obtain ⟨y, hy⟩ := (open_rd_both b).2 fs (o + a.sz) n 0 cs h4 (by omega) (fun g hg => hfs g (by simp [hg]))
        refine ⟨(x, y), _, _, ?_, hx, hy⟩
        rw [h1, h2, ← List.drop_drop, List.take_append_drop]

def TY.val : TY → List Value → Value
  | .struct _, cs => .agg cs.toArray
  | _, [v] => v
  | _, _ => undef

theorem open_val {T : TY} {t : TypeId} {v : Value} {d : DataW H} {ps : List MemPlace} {r : Reach} {base : Nat} (hf : T.fits P none t = true) (hok : Value.okWide P w r base t v) (h : DataW.Trod enc P w 0 spare held t v d ps) :
    ∃ cs x, T.Rd w w.heap.size cs x ∧ v = T.val cs := by
  obtain ⟨fuel, hd⟩ := h
  obtain ⟨x, hx⟩ := (open_rd_both T).1 _ _ _ _ hf hd
  refine ⟨_, x, hx, ?_⟩
  cases T with
  | int k =>
    unfold TY.fits at hf
    split at hf
    · rename_i k' hk
      obtain ⟨n, rfl⟩ := okWide_int hk hok
      rfl
    · cases hf
  | str =>
    unfold TY.fits at hf
    split at hf
    · rename_i hk
      obtain ⟨n, rfl⟩ := okWide_string hk hok
      rfl
    · cases hf
  | bool =>
    unfold TY.fits at hf
    split at hf
    · rename_i hk
      obtain ⟨n, rfl⟩ := okWide_bool hk hok
      rfl
    · cases hf
  | slice e T =>
    unfold TY.fits at hf
    split at hf
    · rename_i e' hk
      obtain ⟨a, n, c, rfl⟩ := okWide_slice hk hok
      rfl
    · cases hf
  | struct f =>
    unfold TY.fits at hf
    split at hf
    · rename_i fs hk
      obtain ⟨cs, rfl, _⟩ := okWide_struct hk hok
      rfl
    · cases hf
  | unit => unfold TY.fits at hf; cases hf
  | last a => unfold TY.fits at hf; cases hf
  | pair a b => unfold TY.fits at hf; cases hf

end

end Go.Proofs.Ytmkpgcahmbancaa
