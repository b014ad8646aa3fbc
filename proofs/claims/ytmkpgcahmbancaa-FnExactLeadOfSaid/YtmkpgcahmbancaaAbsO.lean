/- What is proved: the calculus of abstract states: calls of functions that change what is handed over to them, the rule.
   Conditions: none beyond those that each lemma names. -/
import Derived.Test.YtmkpgcahmbancaaAbsN
namespace Go.Proofs.Ytmkpgcahmbancaa.Ab
set_option linter.unusedSimpArgs false
set_option linter.unusedVariables false
open Go.RowKit

/-- What comes back: one of the objects that were handed over, or as ever. -/
def isTup : V → Bool
  | .tup _ => true
  | _ => false
/-- What comes back, with what is fresh in it as objects. -/
inductive Imp2 (lk : Nat → Option (Nat × Ob)) : Nat → V → V → List (Nat × Nat × Ob) → Prop
  | tup {id vs vs' us} : ImpT lk id vs vs' us → Imp2 lk id (.tup vs) (.tup vs') us
  | agg {id cs cs' us} : ImpL lk id cs cs' us → Imp2 lk id (.agg cs) (.agg cs') us
  | fr {id fl e els ep} : nep (lk id) = ep → Imp2 lk id (.fr fl e els) (.hnd id ep) [(id, ep, .row fl true e els)]
  | other {id v} : isFr v = false → isAgg v = false → isTup v = false → Imp2 lk id v v []
theorem Imp2.eq {lk : Nat → Option (Nat × Ob)} {id : Nat} {r v : V} {us : List (Nat × Nat × Ob)} (h : Imp2 lk id r v us) : imp2 false lk id r = v ∧ upd2 false lk id r = us := by
  cases h with
  | tup h => exact ⟨congrArg V.tup h.eq.1, h.eq.2⟩
  | agg h => exact ⟨congrArg V.agg h.eq.1, h.eq.2⟩
  | fr h => subst h; exact ⟨rfl, rfl⟩
  | other h1 h2 h3 =>
    cases r <;> first | exact ⟨rfl, rfl⟩ | exact Bool.noConfusion (show true = false from h1) | exact Bool.noConfusion (show true = false from h2) | exact Bool.noConfusion (show true = false from h3)
inductive Imp3 (m : List (Nat × Nat × Nat)) (lk : Nat → Option (Nat × Ob)) (id : Nat) : V → V → List (Nat × Nat × Ob) → Prop
  | ptr {o ep k off i d e'} : ren m o = (i, d) → d + ep = e' → Imp3 m lk id (.ptr o ep k off) (.ptr i e' k off) []
  | hnd {o ep i d e'} : ren m o = (i, d) → d + ep = e' → Imp3 m lk id (.hnd o ep) (.hnd i e') []
  | imp {r v us} : isOwnV r = false → Imp2 lk id r v us → Imp3 m lk id r v us
/-- The objects in the caller's names, cell by cell. -/
inductive RenL (m : List (Nat × Nat × Nat)) : List V → List V → Prop
  | nil : RenL m [] []
  | hnd {o ep i d e' r r'} : ren m o = (i, d) → d + ep = e' → RenL m r r' → RenL m (.hnd o ep :: r) (.hnd i e' :: r')
  | ptr {o ep k off i d e' r r'} : ren m o = (i, d) → d + ep = e' → RenL m r r' → RenL m (.ptr o ep k off :: r) (.ptr i e' k off :: r')
  | view {o ep j n i d e' r r'} : ren m o = (i, d) → d + ep = e' → RenL m r r' → RenL m (.view o ep j n :: r) (.view i e' j n :: r')
  | other {v r r'} : isOwnV v = false → RenL m r r' → RenL m (v :: r) (v :: r')
inductive RenR (m : List (Nat × Nat × Nat)) : List (Nat × Nat × Ob) → List (Nat × Nat × Ob) → Prop
  | nil : RenR m [] []
  | row {o ep i d e' fl dd e els r r'} : ren m o = (i, d) → d + ep = e' → RenR m r r' → RenR m ((o, ep, .row fl dd e els) :: r) ((i, e', .row fl dd e els) :: r')
  | box {o ep i d e' ty cs cs' r r'} : ren m o = (i, d) → d + ep = e' → RenL m cs cs' → RenR m r r' → RenR m ((o, ep, .box ty cs) :: r) ((i, e', .box ty cs') :: r')
  | gone {o ep i d e' r r'} : ren m o = (i, d) → d + ep = e' → RenR m r r' → RenR m ((o, ep, .gone) :: r) ((i, e', .gone) :: r')
theorem RenL.eq {m : List (Nat × Nat × Nat)} {cs cs' : List V} (h : RenL m cs cs') : renVL m cs = cs' := by
  induction h with
  | nil => rfl
  | hnd h1 h2 _ ih => subst h2; simp [renVL, renV0, h1, ih]
  | ptr h1 h2 _ ih => subst h2; simp [renVL, renV0, h1, ih]
  | view h1 h2 _ ih => subst h2; simp [renVL, renV0, h1, ih]
  | @other v r r' h1 _ ih =>
    have : renV0 m v = v := by cases v <;> first | rfl | exact Bool.noConfusion (show true = false from h1)
    simp [renVL, this, ih]
theorem RenR.eq {m : List (Nat × Nat × Nat)} {l l' : List (Nat × Nat × Ob)} (h : RenR m l l') : renO m l = l' := by
  induction h with
  | nil => rfl
  | row h1 h2 _ ih => subst h2; simp [renO, renOb, h1, ih]
  | box h1 h2 h3 _ ih => subst h2; simp [renO, renOb, h1, h3.eq, ih]
  | gone h1 h2 _ ih => subst h2; simp [renO, renOb, h1, ih]
def nodupB : List Nat → Bool
  | [] => true
  | x :: r => !r.contains x && nodupB r
theorem nodupB_ok : ∀ {l : List Nat}, nodupB l = true → l.Nodup
  | [], _ => List.nodup_nil
  | x :: r, h => by
    unfold nodupB at h
    rw [Bool.and_eq_true, Bool.not_eq_true'] at h
    exact List.nodup_cons.2 ⟨fun hm => (by rw [List.contains_iff_mem.2 hm] at h; cases h.1), nodupB_ok h.2⟩
def newOk (st : St) (m : List (Nat × Nat × Nat)) (objs objs' : List (Nat × Nat × Ob)) : Bool :=
  objs'.all fun x => (idsL objs).contains x.1 || (match look st.objs (ren m x.1).1 with | some (e, _) => Nat.blt e ((ren m x.1).2 + x.2.1) | none => Nat.blt 0 ((ren m x.1).2 + x.2.1))
def pureM (r : V) (objs' : List (Nat × Nat × Ob)) : Bool := pureR r && objs'.all fun p => pureOb p.2.2
/-- How the caller goes on behind such a call. -/
structure MutK (st : St) (m : List (Nat × Nat × Nat)) (objs : List (Nat × Nat × Ob)) (args as : List V) (d : Nat) (KE : V → List (Nat × Nat × Ob) → Prop) (objs' : List (Nat × Nat × Ob)) (r v : V) (us us' : List (Nat × Nat × Ob)) : Prop where
  imp : Imp3 m (look st.objs) (1000 * d) r v us
  nd : nodupB (idsL (renO m objs' ++ us)) = true
  new : newOk st m objs objs' = true
  pur : (pureM r objs' = true ∧ ((outsA args as).all fun o => !(idsL (renO m objs)).contains o) = true) ∨ outsA args as = []
  sm : small2 r = true
  hin : ((idsL objs).all fun o => (idsL objs').contains o) = true
  re : RenR m objs' us'
  go : KE v (us' ++ us)
section
variable {P : Program} {B : Nat → Prop} {W : En} {o : Oper} {st : St} {KE : V → List (Nat × Nat × Ob) → Prop}
end
end Go.Proofs.Ytmkpgcahmbancaa.Ab
