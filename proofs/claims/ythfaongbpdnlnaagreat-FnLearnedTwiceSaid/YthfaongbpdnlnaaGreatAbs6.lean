/- What is proved: the calculus of abstract states: lists of operations, code, loops, functions.
   Conditions: none beyond those that each lemma names. -/
import Derived.WalkKit
import Derived.WalkSpells
import Derived.WalkLawsBesides
import Derived.ProofKit
import Derived.Laws.OwnMore
import Derived.Deep.AppendLies
import Derived.Maps.AppendAt
import Derived.Lib.Hide
import Derived.OpenShut
import Derived.Tactics
namespace Go.Proofs.YthfaongbpdnlnaaGreat.Ab
set_option linter.unusedSimpArgs false
set_option linter.unusedVariables false
open Go.RowKit
inductive T where
 | int (k:IntKind) (n:Int)
 | bool (b:Bool)
 | str (s:List UInt8)
 | nil
 | lst (fl:Bool) (e:TypeId) (els:List (List T))
inductive V where
 | t (x:T)
 | hnd (o ep:Nat)
 | ptr (o ep i off:Nat)
 | view (o ep i n:Nat)
 | rptr (cs:List T) (off:Nat)
 | lit (v:Value)
 | agg (cs:List V)
 | tup (vs:List V)
 | fr (fl:Bool) (e:TypeId) (els:List (List T))
 | junk
inductive Ob where
 | box (ty:TypeId) (cs:List V)
 | row (fl d:Bool) (e:TypeId) (els:List (List T))
 | hole (e:TypeId) (els:List (List T)) (q:Nat) (x:V)
 | gone
structure St where
 n:Nat
 tmps:List (Nat×V)
 objs:List (Nat×Nat×Ob)
def T.flat:T→Bool
 | .int _ _ | .bool _ | .str _=>true
 | _=>false
def bs (s:List UInt8):ByteArray:=⟨s.toArray⟩
def Ob.isRow:Ob→Bool
 | .row ..=>true
 | .hole ..=>true
 | _=>false
def esz (P:Program):Ob→Nat
 | .row _ _ e _=>P.cellsOf e
 | .hole e _ _ _=>P.cellsOf e
 | _=>0
def blk:Value→Option (Nat×Nat)
 | .pointer (some ⟨g,b,none⟩)=>some (g,b)
 | .slice (some ⟨g,b,none⟩) _ _=>some (g,b)
 | _=>none
def look:List (Nat×Nat×Ob)→Nat→Option (Nat×Ob)
 | [],_=>none
 | (i,e,b) :: r,o=>match Nat.beq i o with|true=>some (e,b)|false=>look r o
def updo (l:List (Nat×Nat×Ob)) (o e:Nat) (b:Ob):List (Nat×Nat×Ob):=(o,e,b) :: l
def Zcm:List (Nat×V)→Nat→V
 | [],_=>.junk
 | (i,v) :: r,t=>match Nat.beq i t with|true=>v|false=>Zcm r t
theorem ZcH (i:Nat) (v:V) (r:List (Nat×V)) (t:Nat):Zcm ((i,v) :: r) t=if i=t then v else Zcm r t:=by
 show (match Nat.beq i t with|true=>v|false=>Zcm r t)=_
 cases h:Nat.beq i t
 ·have:=Nat.ne_of_beq_eq_false h
  rw [if_neg this]
 ·have:=Nat.eq_of_beq_eq_true h
  rw [if_pos this]
theorem ZaB (i e:Nat) (b:Ob) (r:List (Nat×Nat×Ob)) (o:Nat):look ((i,e,b) :: r) o=if i=o then some (e,b) else look r o:=by
 show (match Nat.beq i o with|true=>some (e,b)|false=>look r o)=_
 cases h:Nat.beq i o
 ·have:=Nat.ne_of_beq_eq_false h
  rw [if_neg this]
 ·have:=Nat.eq_of_beq_eq_true h
  rw [if_pos this]
theorem ZdV (l:List (Nat×Nat×Ob)) (o e:Nat) (b:Ob) (o':Nat):look (updo l o e b) o'=if o=o' then some (e,b) else look l o':=by
 exact ZaB o e b l o'
def Mem (w:World) (B:Nat→Prop) (A:Option Addr) (us:List Value):Prop :=
 us ≠ []→∃ ad,A=some ad∧B ad.block∧∀ k u,us[k]?=some u→w.cell? (ad.add k)=some u
theorem Za0 (a:Addr) (n:Nat):(a.add n).block=a.block:=by unfold Addr.add;split<;>rfl
theorem Zc7 (a:Addr) (i j:Nat):(a.add i).add j=a.add (i + j):=by
 unfold Addr.add
 by_cases hi:i=0<;>by_cases hj:j=0<;>simp [hi,hj,Nat.add_assoc]
theorem ZaS (g off j:Nat):(⟨g,off,none⟩:Addr).add j=⟨g,off + j,none⟩:=by unfold Addr.add;split<;>simp_all
theorem Mem.mono {w w':World} {B B':Nat→Prop} {A:Option Addr} {us:List Value} (h:Mem w B A us) (hB:∀ b,B b→B' b) (hk:∀ b,B b→w'.heap[b]?=w.heap[b]?):Mem w' B' A us:=fun hn=>by
 obtain ⟨ad,e,hb,hc⟩:=h hn
 exact ⟨ad,e,hB _ hb,fun k u hu=>(World.cell?_of_block (by rw [Za0];exact hk _ hb)).trans (hc k u hu)⟩
def ZbZ (w:World) (e:TypeId) (size:Nat) (v:Value) (n:Nat) (xs:List Value):Prop :=
 xs.length=n * size∧((v=.slice none 0 0∧n=0) ∨
  ∃ g off cap cur fz,v=.slice (some ⟨g,off,none⟩) n cap∧w.heap[g]?=some (.cells cur e fz)∧(fz=(0,0)∨cur.size≤fz.1)∧n≤cap∧cap≤maxLen∧off + cap * size≤cur.size∧(cur.toList.drop off).take (n * size)=xs)
theorem ZbZ.nil (w:World) (e:TypeId) (size:Nat):ZbZ w e size (.slice none 0 0) 0 []:=⟨by simp,.inl ⟨rfl,rfl⟩⟩
inductive Rd (P:Program) (w:World) (B:Nat→Prop):T→Value→Prop
 | int {k n}:(Lit.int k n).wf=true→Rd P w B (.int k n) (.int k n)
 | bool {b}:Rd P w B (.bool b) (.bool b)
 | str {s}:s.length≤maxLen→Rd P w B (.str s) (.string (bs s))
 | nil:Rd P w B .nil (.slice none 0 0)
 | lst {fl e els A c} (us:List Value):els.length≤c→c≤maxLen→(∀ x ∈ els,x.length=P.cellsOf e)→(fl=true→∀ x ∈ els.flatten,x.flat=true) →
   els.flatten.length=us.length→Mem w B A us→(∀ (k:Nat) (x:T) (u:Value),els.flatten[k]?=some x→us[k]?=some u→Rd P w B x u)→Rd P w B (.lst fl e els) (.slice A els.length c)
theorem Rd.mono {P:Program} {w w':World} {B B':Nat→Prop} {x:T} {u:Value} (h:Rd P w B x u) (hB:∀ b,B b→B' b) (hk:∀ b,B b→w'.heap[b]?=w.heap[b]?):Rd P w' B' x u:=by
 induction h with
 | int h=>exact .int h
 | bool=>exact .bool
 | str h=>exact .str h
 | nil=>exact .nil
 | lst us h1 h2 h3 h4 h5 h6 _ ih=>exact .lst us h1 h2 h3 h4 h5 (h6.mono hB hk) ih
theorem Rd.one {P:Program} {w:World} {B:Nat→Prop} {x:T} {u:Value} (h:Rd P w B x u):u.oneCell'=true:=by
 cases h<;>rfl
theorem Rd.flat {P:Program} {w w':World} {B B':Nat→Prop} {x:T} {u:Value} (h:Rd P w B x u) (hf:x.flat=true):Rd P w' B' x u:=by
 cases h with
 | int h=>exact .int h
 | bool=>exact .bool
 | str h=>exact .str h
 | nil=>cases hf
 | lst=>cases hf
inductive Ow (P:Program) (w:World):T→Value→(Nat→Prop)→Prop
 | flat {x u F}:x.flat=true→Rd P w (fun _=>False) x u→(∀ b,¬ F b)→Ow P w x u F
 | nil {F}:(∀ b,¬ F b)→Ow P w .nil (.slice none 0 0) F
 | lst {fl e els u F} (us:List Value) (fs:Nat→Nat→Prop):ZbZ w e (P.cellsOf e) u els.length us→(∀ x ∈ els,x.length=P.cellsOf e)→(fl=true→∀ x ∈ els.flatten,x.flat=true) →
   els.flatten.length=us.length→(∀ (k:Nat) (x:T) (v:Value),els.flatten[k]?=some x→us[k]?=some v→Ow P w x v (fs k))→(∀ k k' b,k ≠ k'→fs k b→¬ fs k' b) →
   (∀ k b,fs k b→u.ownBlock ≠ some b)→(∀ b,F b↔(u.ownBlock=some b∨∃ k,fs k b))→Ow P w (.lst fl e els) u F
theorem ZeJ {w w':World} {e:TypeId} {size:Nat} {v:Value} {n:Nat} {xs:List Value} (h:ZbZ w e size v n xs) (hk:∀ b,v.ownBlock=some b→w'.heap[b]?=w.heap[b]?):ZbZ w' e size v n xs:=by
 refine ⟨h.1,?_⟩
 rcases h.2 with hn|⟨g,off,cap,cur,fz,rfl,hg,rest⟩
 ·exact .inl hn
 ·exact .inr ⟨g,off,cap,cur,fz,rfl,(hk g rfl).trans hg,rest⟩
theorem Ow.keep {P:Program} {w w':World} {x:T} {u:Value} {F:Nat→Prop} (h:Ow P w x u F) (hk:∀ b,F b→w'.heap[b]?=w.heap[b]?):Ow P w' x u F:=by
 induction h with
 | flat hf hr hF=>exact .flat hf (hr.flat hf) hF
 | nil hF=>exact .nil hF
 | lst us fs h1 h2 h3 h4 _ h6 h7 h8 ih =>
  exact .lst us fs (ZeJ h1 fun b hb=>hk b ((h8 b).2 (.inl hb))) h2 h3 h4 (fun k x v hx hv=>ih k x v hx hv fun b hb=>hk b ((h8 b).2 (.inr ⟨k,hb⟩))) h6 h7 h8
theorem Zbm {w:World} {e:TypeId} {size:Nat} {v:Value} {n:Nat} {xs:List Value} (h:ZbZ w e size v n xs) :
  ∃ A c,v=.slice A n c∧n≤c∧c≤maxLen∧(xs ≠ []→∃ g off,A=some ⟨g,off,none⟩∧v.ownBlock=some g∧blk v=some (g,off)∧∀ k u,xs[k]?=some u→w.cell? ⟨g,off + k,none⟩=some u):=by
 rcases h.2 with ⟨rfl,rfl⟩|⟨g,off,cap,cur,fz,rfl,hg,hfz,h1,h2,h3,h4⟩
 ·exact ⟨none,0,rfl,Nat.le_refl _,by simp [maxLen],fun hn=>absurd (List.eq_nil_of_length_eq_zero (by simpa using h.1)) hn⟩
 ·refine ⟨_,_,rfl,h1,h2,fun _=>⟨g,off,rfl,rfl,rfl,fun k u hu=>?_⟩⟩
  rw [cell_of_row w g (off + k) cur e fz hg]
  rw [← h4,List.getElem?_take] at hu
  split at hu
  ·rw [List.getElem?_drop] at hu
   simpa using hu
  ·cases hu
theorem Ow.rd {P:Program} {w:World} {x:T} {u:Value} {F B:Nat→Prop} (h:Ow P w x u F) (hB:∀ b,F b→B b):Rd P w B x u:=by
 induction h with
 | flat hf hr hF=>exact hr.flat hf
 | nil hF=>exact .nil
 | @lst fl e els u F us fs h1 h2 h3 h4 _ h6 h7 h8 ih =>
  obtain ⟨A,c,rfl,hc1,hc2,hm⟩:=Zbm h1
  refine .lst us hc1 hc2 h2 h3 h4 (fun hn=>?_) fun k x v hx hv=>ih k x v hx hv fun b hb=>hB b ((h8 b).2 (.inr ⟨k,hb⟩))
  obtain ⟨g,off,rfl,hg,_,hcell⟩:=hm hn
  exact ⟨_,rfl,hB g ((h8 g).2 (.inl hg)),fun k u hu=>by rw [ZaS];exact hcell k u hu⟩
theorem Ow.one {P:Program} {w:World} {x:T} {u:Value} {F:Nat→Prop} (h:Ow P w x u F):u.oneCell'=true:=(h.rd (B:=fun _=>True) fun _ _=>trivial).one
section
variable (P:Program) (w:World) (lk:Nat→Option (Nat×Ob)) (pl:Nat→Value) (Fr:Nat→Prop)
def C0:V→Value→Prop
 | .t x,u=>Rd P w Fr x u
 | .hnd o ep,u=>u.oneCell'=true∧∃ ep' ob,lk o=some (ep',ob)∧ep≤ep'∧(ep=ep'→ob.isRow=true∧u=pl o)
 | .ptr o ep i off,u=>u.oneCell'=true∧∃ ep' ob,lk o=some (ep',ob)∧ep≤ep'∧(ep=ep'→∃ g b,blk (pl o)=some (g,b)∧u=.pointer (some ⟨g,b + (i * esz P ob + off),none⟩))
 | .view o ep i n,u=>u.oneCell'=true∧∃ ep' ob,lk o=some (ep',ob)∧ep≤ep'∧(ep=ep'→ob.isRow=true∧∃ A c,u=.slice A n c∧n≤c∧c≤maxLen∧(0 < n→∃ g b,blk (pl o)=some (g,b)∧A=some ⟨g,b + i * esz P ob,none⟩))
 | .rptr cs off,u=>∃ ad,u=.pointer (some ad)∧∀ (j:Nat) (x:T),cs[off + j]?=some x→Fr ad.block∧∃ y,w.cell? (ad.add j)=some y∧Rd P w Fr x y
 | .lit v,u=>u=v
 | .junk,_=>True
 | _,_=>False
def C1:V→Value→Prop
 | .agg cs,u=>∃ us:List Value,u=.agg us.toArray∧us.length=cs.length∧∀ (k:Nat) (v:V) (x:Value),cs[k]?=some v→us[k]?=some x→C0 P w lk pl Fr v x
 | v,u=>C0 P w lk pl Fr v u
def C2:V→Value→Prop
 | .tup vs,u=>∃ us:List Value,u=.tuple us.toArray∧us.length=vs.length∧∀ (k:Nat) (v:V) (x:Value),vs[k]?=some v→us[k]?=some x→C1 P w lk pl Fr v x
 | v,u=>C1 P w lk pl Fr v u
def Sh (Rr:T→Value→Prop) (fl:Bool) (e:TypeId) (els:List (List T)) (v:Value) (F:Nat→Prop):Prop :=
 ∃ us,ZbZ w e (P.cellsOf e) v els.length us∧(∀ x ∈ els,x.length=P.cellsOf e)∧(fl=true→∀ x ∈ els.flatten,x.flat=true)∧els.flatten.length=us.length ∧
  (∀ (k:Nat) (x:T) (u:Value),els.flatten[k]?=some x→us[k]?=some u→Rr x u)∧∀ b,F b↔v.ownBlock=some b
def ObR (CC:V→Value→Prop) (Rr:T→Value→Prop) (v:Value) (F:Nat→Prop):Ob→Prop
 | .box ty cs=>∃ (g:Nat) (us:List Value),v=.pointer (some ⟨g,0,none⟩)∧(∀ b,F b↔b=g)∧w.heap[g]?=some (.cells us.toArray ty (0,0))∧us.length=cs.length∧∀ (k:Nat) (x:V) (u:Value),cs[k]?=some x→us[k]?=some u→CC x u
 | .row fl d e els=>(d=true∧Ow P w (.lst fl e els) v F)∨(d=false∧Sh P w Rr fl e els v F)
 | .hole e els q x=>∃ (us:List Value) (fs:Nat→Nat→Prop),ZbZ w e (P.cellsOf e) v els.length us∧(∀ x ∈ els,x.length=P.cellsOf e)∧els.flatten.length=us.length∧(∀ (k:Nat) (y:T) (u:Value),k ≠ q→els.flatten[k]?=some y→us[k]?=some u→Ow P w y u (fs k)) ∧
   (∀ u,us[q]?=some u→CC x u)∧(∀ k k' b,k ≠ k'→k ≠ q→k' ≠ q→fs k b→¬ fs k' b)∧(∀ k b,k ≠ q→fs k b→v.ownBlock ≠ some b)∧(∀ b,F b↔(v.ownBlock=some b∨∃ k,k ≠ q∧fs k b))∧q < us.length
 | .gone=>∀ b,¬ F b
end
structure En extends World where
 M:Nat→Prop
 objs0:List (Nat×Nat×Ob)
 pl0:Nat→Value
def En.bare (w:World):En:=⟨w,fun _=>False,[],fun _=>undef⟩
def En.o (W:En) (b:Nat):Prop:=W.heap.size≤b∨W.M b
structure Kp (W:En) (w w':World):Prop where
 os:w'.os=w.os
 tape:w'.tape=w.tape
 output:w'.output=w.output
 size:w.heap.size≤w'.heap.size
 block:∀ k,¬ W.o k→w'.heap[k]?=w.heap[k]?
theorem Kp.refl (W:En) (w:World):Kp W w w:=⟨rfl,rfl,rfl,Nat.le_refl _,fun _ _=>rfl⟩
theorem Kp.trans {W:En} {a b c:World} (h:Kp W a b) (k:Kp W b c):Kp W a c :=
 ⟨k.os.trans h.os,k.tape.trans h.tape,k.output.trans h.output,Nat.le_trans h.size k.size,fun i hi=>(k.block i hi).trans (h.block i hi)⟩
theorem Below.kp {W:En} {N:Nat} {w w':World} (h:Below N w w') (hN:W.heap.size≤N):Kp W w w' :=
 ⟨h.os,h.tape,h.output,h.size,fun k hk=>h.block k (Nat.lt_of_lt_of_le (Nat.lt_of_not_le fun h'=>hk (.inl h')) hN)⟩
theorem Kp.below {W:En} {w w':World} (h:Kp W w w') (hM:∀ b,¬ W.M b):Below W.heap.size w w' :=
 ⟨h.os,h.tape,h.output,h.size,fun k hk=>h.block k fun ho=>ho.elim (fun h'=>by omega) (hM k)⟩
def Free (B:Nat→Prop) (O:Nat→Prop) (lk:Nat→Option (Nat×Ob)) (F:Nat→Nat→Prop) (w:World) (b:Nat):Prop:=(B b∨O b)∧b < w.heap.size∧∀ o x,lk o=some x→¬ F o b
structure SimW (P:Program) (B:Nat→Prop) (W:En) (st:St) (a:Act) (w:World) (pl:Nat→Value) (F:Nat→Nat→Prop):Prop where
 old:∀ b,B b→b < W.heap.size
 size:a.tmps.size=st.n
 defers:a.defers=[]
 below:Kp W W.toWorld w
 tmps:∀ i:Nat,i < st.n→C2 P w (look st.objs) pl (Free B W.o (look st.objs) F w) (Zcm st.tmps i) (a.tmps.getD i undef)
 objs:∀ o ep ob,look st.objs o=some (ep,ob)→ObR P w (C0 P w (look st.objs) pl (Free B W.o (look st.objs) F w)) (Rd P w (Free B W.o (look st.objs) F w)) (pl o) (F o) ob
 range:∀ o x b,look st.objs o=some x→F o b→W.o b∧b < w.heap.size
 apart:∀ o o' x x' b,o ≠ o'→look st.objs o=some x→look st.objs o'=some x'→F o b→¬ F o' b
 hist:∀ o ob0,look W.objs0 o=some (0,ob0)→∀ ep ob,look st.objs o=some (ep,ob)→0 < ep∨(pl o=W.pl0 o∧ob.isRow=ob0.isRow∧esz P ob=esz P ob0)
def Sim (P:Program) (B:Nat→Prop) (W:En) (st:St) (a:Act) (w:World):Prop:=∃ pl F,SimW P B W st a w pl F
section
variable {P:Program} {w w':World} {lk lk':Nat→Option (Nat×Ob)} {pl pl':Nat→Value} {Fr Fr':Nat→Prop}
structure Goes (P:Program) (w w':World) (lk lk':Nat→Option (Nat×Ob)) (pl pl':Nat→Value) (Fr Fr':Nat→Prop):Prop where
 more:∀ b,Fr b→Fr' b
 heap:∀ b,Fr b→w'.heap[b]?=w.heap[b]?
 look:∀ o ep ob,lk o=some (ep,ob)→∃ ep' ob',lk' o=some (ep',ob')∧(ep < ep'∨(ep=ep'∧pl' o=pl o∧ob'.isRow=ob.isRow∧esz P ob'=esz P ob))
theorem C0.goes (g:Goes P w w' lk lk' pl pl' Fr Fr') {v:V} {u:Value} (h:C0 P w lk pl Fr v u):C0 P w' lk' pl' Fr' v u:=by
 cases v with
 | t x=>exact Rd.mono h g.more g.heap
 | hnd o ep =>
  obtain ⟨h1,ep0,ob0,h2,h3,h4⟩:=h
  obtain ⟨ep',ob',h5,h6⟩:=g.look _ _ _ h2
  refine ⟨h1,ep',ob',h5,by omega,fun e=>?_⟩
  rcases h6 with h6|⟨h6,h7,h8,h9⟩
  ·omega
  ·rw [h7,h8];exact h4 (by omega)
 | ptr o ep i off =>
  obtain ⟨h1,ep0,ob0,h2,h3,h4⟩:=h
  obtain ⟨ep',ob',h5,h6⟩:=g.look _ _ _ h2
  refine ⟨h1,ep',ob',h5,by omega,fun e=>?_⟩
  rcases h6 with h6|⟨h6,h7,h8,h9⟩
  ·omega
  ·rw [h7,h9];exact h4 (by omega)
 | view o ep i n =>
  obtain ⟨h1,ep0,ob0,h2,h3,h4⟩:=h
  obtain ⟨ep',ob',h5,h6⟩:=g.look _ _ _ h2
  refine ⟨h1,ep',ob',h5,by omega,fun e=>?_⟩
  rcases h6 with h6|⟨h6,h7,h8,h9⟩
  ·omega
  ·rw [h7,h8,h9];exact h4 (by omega)
 | rptr cs off =>
  obtain ⟨ad,h1,h2⟩:=h
  refine ⟨ad,h1,fun j x hx=>?_⟩
  obtain ⟨h3,y,h4,h5⟩:=h2 j x hx
  exact ⟨g.more _ h3,y,(World.cell?_of_block (by rw [Za0];exact g.heap _ h3)).trans h4,h5.mono g.more g.heap⟩
 | lit=>exact h
 | junk=>trivial
 | agg=>exact h
 | tup=>exact h
 | fr=>exact h
theorem C1.goes (g:Goes P w w' lk lk' pl pl' Fr Fr') {v:V} {u:Value} (h:C1 P w lk pl Fr v u):C1 P w' lk' pl' Fr' v u:=by
 cases v with
 | agg cs =>
  obtain ⟨us,h1,h2,h3⟩:=h
  exact ⟨us,h1,h2,fun k v x hv hx=>(h3 k v x hv hx).goes g⟩
 | _=>unfold C1 at h ⊢;exact C0.goes g h
theorem C2.goes (g:Goes P w w' lk lk' pl pl' Fr Fr') {v:V} {u:Value} (h:C2 P w lk pl Fr v u):C2 P w' lk' pl' Fr' v u:=by
 cases v with
 | tup cs =>
  obtain ⟨us,h1,h2,h3⟩:=h
  exact ⟨us,h1,h2,fun k v x hv hx=>(h3 k v x hv hx).goes g⟩
 | _=>unfold C2 at h ⊢;exact C1.goes g h
theorem ObR.goes {CC CC':V→Value→Prop} {Rr Rr':T→Value→Prop} {v:Value} {F:Nat→Prop} {ob:Ob} (hk:∀ b,F b→w'.heap[b]?=w.heap[b]?) (hC:∀ x u,CC x u→CC' x u) (hR:∀ x u,Rr x u→Rr' x u)
  (h:ObR P w CC Rr v F ob):ObR P w' CC' Rr' v F ob:=by
 cases ob with
 | box ty cs =>
  obtain ⟨g,us,h1,h2,h3,h4,h5⟩:=h
  exact ⟨g,us,h1,h2,(hk g ((h2 g).2 rfl)).trans h3,h4,fun k x u hx hu=>hC _ _ (h5 k x u hx hu)⟩
 | row fl d e els =>
  rcases h with ⟨hd,h⟩|⟨hd,us,h1,h2,h3,h4,h5,h6⟩
  ·exact .inl ⟨hd,h.keep hk⟩
  ·exact .inr ⟨hd,us,ZeJ h1 fun b hb=>hk b ((h6 b).2 hb),h2,h3,h4,fun k x u hx hu=>hR _ _ (h5 k x u hx hu),h6⟩
 | hole e els q x =>
  obtain ⟨us,fs,h1,h2,h3,h4,h5,h6,h7,h8,h9⟩:=h
  exact ⟨us,fs,ZeJ h1 fun b hb=>hk b ((h8 b).2 (.inl hb)),h2,h3,fun k y u hq hy hu=>(h4 k y u hq hy hu).keep fun b hb=>hk b ((h8 b).2 (.inr ⟨k,hq,hb⟩)),fun u hu=>hC _ _ (h5 u hu),h6,h7,h8,h9⟩
 | gone=>exact h
end
def Gone (lk:Nat→Option (Nat×Ob)) (F:Nat→Nat→Prop) (o:Nat) (K:Nat→Prop) (b:Nat):Prop:=(∃ x,lk o=some x∧F o b)∨∃ i x,i ≠ o∧K i∧lk i=some x∧F i b
theorem SimW.change {P:Program} {B:Nat→Prop} {W:En} {st:St} {a:Act} {w w':World} {pl:Nat→Value} {F:Nat→Nat→Prop} (h:SimW P B W st a w pl F)
  {o ep:Nat} {ob:Ob} {v':Value} {F':Nat→Prop} {K:Nat→Prop} {objs':List (Nat×Nat×Ob)}
  (hw:Kp W w w') (hk:∀ b,b < w.heap.size→(∀ x,look st.objs o=some x→¬ F o b)→w'.heap[b]?=w.heap[b]?)
  (hl:look objs' o=some (ep,ob)) (hlo:∀ i,i ≠ o→¬ K i→look objs' i=look st.objs i) (hlk:∀ i,i ≠ o→K i→∃ e b,look st.objs i=some (e,b)∧look objs' i=some (e + 1,.gone))
  (hep:∀ ep0 ob0,look st.objs o=some (ep0,ob0)→ep0 < ep∨(ep0=ep∧v'=pl o∧ob.isRow=ob0.isRow∧esz P ob=esz P ob0)) (hnone:look st.objs o=none→0 < ep)
  (hF:∀ b,F' b→(w.heap.size≤b∧b < w'.heap.size)∨Gone (look st.objs) F o K b)
  (hob:∀ lk' pl' Fr',Goes P w w' (look st.objs) lk' pl pl' (Free B W.o (look st.objs) F w) Fr'→(∀ b,Gone (look st.objs) F o K b→¬ F' b→Fr' b)→lk' o=some (ep,ob)→pl' o=v' →
   ObR P w' (C0 P w' lk' pl' Fr') (Rd P w' Fr') v' F' ob) :
  ∃ pl' F'',SimW P B W { st with objs:=objs' } a w' pl' F''∧pl' o=v'∧Goes P w w' (look st.objs) (look objs') pl pl' (Free B W.o (look st.objs) F w) (Free B W.o (look objs') F'' w') ∧
   (∀ b,Gone (look st.objs) F o K b→¬ F' b→Free B W.o (look objs') F'' w' b)∧(∀ j,j ≠ o→¬ K j→F'' j=F j):=by
 classical
 let pl':Nat→Value:=fun i=>if i=o then v' else pl i
 let F'':Nat→Nat→Prop:=fun i=>if i=o then F' else if K i then fun _=>False else F i
 have eo:F'' o=F':=if_pos rfl
 have ek:∀ i,i ≠ o→K i→F'' i=fun _=>False:=fun i h1 h2=>by show (if i=o then F' else if K i then _ else _)=_;rw [if_neg h1,if_pos h2]
 have en:∀ i,i ≠ o→¬ K i→F'' i=F i:=fun i h1 h2=>by show (if i=o then F' else if K i then _ else _)=_;rw [if_neg h1,if_neg h2]
 have hrg:∀ b,Gone (look st.objs) F o K b→W.o b∧b < w'.heap.size:=fun b hb=>by
  rcases hb with ⟨y,hy,h1⟩|⟨j,y,_,_,hy,h1⟩
  ·have:=h.range _ _ _ hy h1
   exact ⟨this.1,Nat.lt_of_lt_of_le this.2 hw.size⟩
  ·have:=h.range _ _ _ hy h1
   exact ⟨this.1,Nat.lt_of_lt_of_le this.2 hw.size⟩
 have hap:∀ b j y,j ≠ o→¬ K j→look st.objs j=some y→F j b→¬ Gone (look st.objs) F o K b:=fun b j y hj hK hy hf hb=>by
  rcases hb with ⟨z,hz,h1⟩|⟨l,z,hl1,hl2,hz,h1⟩
  ·exact h.apart j o _ _ b hj hy hz hf h1
  ·exact h.apart j l _ _ b (fun e=>hK (by rw [e];exact hl2)) hy hz hf h1
 have g:Goes P w w' (look st.objs) (look objs') pl pl' (Free B W.o (look st.objs) F w) (Free B W.o (look objs') F'' w'):=by
  refine ⟨fun b hb=>⟨hb.1,Nat.lt_of_lt_of_le hb.2.1 hw.size,fun i x hx hf=>?_⟩,fun b hb=>hk b hb.2.1 fun x hx=>hb.2.2 o x hx,fun i e b hi=>?_⟩
  ·by_cases hi:i=o
   ·subst hi
    rw [eo] at hf
    rcases hF b hf with h1|⟨y,hy,h1⟩|⟨j,y,_,_,hy,h1⟩
    ·have:=hb.2.1;omega
    ·exact hb.2.2 _ _ hy h1
    ·exact hb.2.2 _ _ hy h1
   ·by_cases hK:K i
    ·rw [ek i hi hK] at hf;exact hf
    ·rw [en i hi hK] at hf
     rw [hlo i hi hK] at hx
     exact hb.2.2 _ _ hx hf
  ·by_cases hi':i=o
   ·subst hi'
    refine ⟨ep,ob,hl,?_⟩
    rcases hep _ _ hi with h1|⟨h1,h2,h3,h4⟩
    ·exact .inl h1
    ·exact .inr ⟨h1,(if_pos rfl).trans h2,h3,h4⟩
   ·by_cases hK:K i
    ·obtain ⟨e',b',h1,h2⟩:=hlk i hi' hK
     rw [hi] at h1
     cases h1
     exact ⟨_,_,h2,.inl (Nat.lt_succ_self _)⟩
    ·refine ⟨e,b,(hlo i hi' hK).trans hi,.inr ⟨rfl,if_neg hi',rfl,rfl⟩⟩
 have hgone:∀ b,Gone (look st.objs) F o K b→¬ F' b→Free B W.o (look objs') F'' w' b:=fun b hb hnf=>by
  refine ⟨.inr (hrg b hb).1,(hrg b hb).2,fun i x hx hf=>?_⟩
  by_cases hi:i=o
  ·subst hi
   rw [eo] at hf
   exact hnf hf
  ·by_cases hK:K i
   ·rw [ek i hi hK] at hf;exact hf
   ·rw [en i hi hK] at hf
    rw [hlo i hi hK] at hx
    exact hap b i _ hi hK hx hf hb
 have hR:∀ x u,Rd P w (Free B W.o (look st.objs) F w) x u→Rd P w' (Free B W.o (look objs') F'' w') x u:=fun x u hx=>hx.mono g.more g.heap
 refine ⟨pl',F'',⟨h.old,h.size,h.defers,h.below.trans hw,fun i hi=>(h.tmps i hi).goes g,fun i e b hi=>?_,fun i x b hi hf=>?_,fun i i' x x' b hne hi hi' hf hf'=>?_,fun i ob0 h0 e b hi=>?_⟩,if_pos rfl,g,hgone,en⟩
 ·by_cases hi':i=o
  ·subst hi'
   rw [hl] at hi
   cases hi
   rw [eo,show pl' i=v' from if_pos rfl]
   exact hob _ _ _ g hgone hl (if_pos rfl)
  ·by_cases hK:K i
   ·obtain ⟨e',b',h1,h2⟩:=hlk i hi' hK
    rw [h2] at hi
    cases hi
    rw [ek i hi' hK]
    exact fun _ h=>h
   ·have hi0:=hi
    rw [hlo i hi' hK] at hi0
    rw [en i hi' hK,show pl' i=pl i from if_neg hi']
    refine (h.objs i e b hi0).goes (fun b hb=>hk b (h.range i _ b hi0 hb).2 fun x hx hf=>?_) (fun _ _ hc=>C0.goes g hc) hR
    exact h.apart i o _ _ b hi' hi0 hx hb hf
 ·by_cases hi':i=o
  ·subst hi'
   rw [eo] at hf
   rcases hF b hf with h1|h1
   ·exact ⟨.inl (Nat.le_trans h.below.size h1.1),h1.2⟩
   ·exact hrg b h1
  ·by_cases hK:K i
   ·rw [ek i hi' hK] at hf;exact hf.elim
   ·rw [en i hi' hK] at hf
    rw [hlo i hi' hK] at hi
    have:=h.range _ _ _ hi hf
    exact ⟨this.1,Nat.lt_of_lt_of_le this.2 hw.size⟩
 ·have key:∀ j y,j ≠ o→look objs' j=some y→F'' j b→F' b→False:=fun j y hj hy hfj hfo=>by
   by_cases hK:K j
   ·rw [ek j hj hK] at hfj;exact hfj
   ·rw [en j hj hK] at hfj
    rw [hlo j hj hK] at hy
    rcases hF b hfo with h1|h1
    ·have:=(h.range _ _ _ hy hfj).2;omega
    ·exact hap b j _ hj hK hy hfj h1
  by_cases h1:i=o
  ·subst h1
   rw [eo] at hf
   exact key i' _ (Ne.symm hne) hi' hf' hf
  ·by_cases h2:i'=o
   ·subst h2
    rw [eo] at hf'
    exact key i _ h1 hi hf hf'
   ·by_cases hK:K i
    ·rw [ek i h1 hK] at hf;exact hf
    ·by_cases hK':K i'
     ·rw [ek i' h2 hK'] at hf';exact hf'
     ·rw [en i h1 hK] at hf
      rw [en i' h2 hK'] at hf'
      rw [hlo i h1 hK] at hi
      rw [hlo i' h2 hK'] at hi'
      exact h.apart i i' _ _ b hne hi hi' hf hf'
 ·by_cases hi':i=o
  ·subst hi'
   rw [hl] at hi
   cases hi
   cases hlo0:look st.objs i with
   | none=>exact .inl (hnone hlo0)
   | some x =>
    obtain ⟨e0,b0⟩:=x
    rcases hep _ _ hlo0 with h1|⟨h1,h2,h3,h4⟩
    ·exact .inl (by omega)
    ·rcases h.hist i ob0 h0 _ _ hlo0 with h5|⟨h5,h6,h7⟩
     ·exact .inl (by omega)
     ·exact .inr ⟨(if_pos rfl).trans (h2.trans h5),h3.trans h6,h4.trans h7⟩
  ·by_cases hK:K i
   ·obtain ⟨e',b',h1,h2⟩:=hlk i hi' hK
    rw [h2] at hi
    cases hi
    exact .inl (Nat.succ_pos _)
   ·rw [hlo i hi' hK] at hi
    rcases h.hist i ob0 h0 _ _ hi with h5|⟨h5,h6⟩
    ·exact .inl h5
    ·exact .inr ⟨(if_neg hi').trans h5,h6⟩
def Pw {α β:Type} (R:α→β→Prop) (cs:List α) (us:List β):Prop:=us.length=cs.length∧∀ (k:Nat) (x:α) (u:β),cs[k]?=some x→us[k]?=some u→R x u
section
variable {α β:Type} {R R':α→β→Prop}
theorem Pw.nil:Pw R [] []:=⟨rfl,fun k x u h=>by simp at h⟩
theorem Pw.cons {x:α} {u:β} {cs:List α} {us:List β} (h:R x u) (hs:Pw R cs us):Pw R (x :: cs) (u :: us):=by
 refine ⟨by simp [hs.1],fun k y v hy hv=>?_⟩
 cases k with
 | zero=>simp at hy hv;subst hy hv;exact h
 | succ k=>exact hs.2 k y v (by simpa using hy) (by simpa using hv)
theorem Pw.append {cs ds:List α} {us vs:List β} (h:Pw R cs us) (h':Pw R ds vs):Pw R (cs++ds) (us++vs):=by
 refine ⟨by simp [h.1,h'.1],fun k x u hx hu=>?_⟩
 by_cases hk:k < cs.length
 ·rw [List.getElem?_append_left hk] at hx
  rw [List.getElem?_append_left (by rw [h.1];exact hk)] at hu
  exact h.2 k x u hx hu
 ·rw [List.getElem?_append_right (by omega)] at hx
  rw [List.getElem?_append_right (by rw [h.1];omega),h.1] at hu
  exact h'.2 _ x u hx hu
theorem Pw.take {cs:List α} {us:List β} (h:Pw R cs us) (n:Nat):Pw R (cs.take n) (us.take n):=by
 refine ⟨by simp [h.1],fun k x u hx hu=>?_⟩
 rw [List.getElem?_take] at hx hu
 split at hx
 ·rw [if_pos ‹_›] at hu;exact h.2 k x u hx hu
 ·cases hx
theorem Pw.drop {cs:List α} {us:List β} (h:Pw R cs us) (n:Nat):Pw R (cs.drop n) (us.drop n):=by
 refine ⟨by simp [h.1],fun k x u hx hu=>?_⟩
 rw [List.getElem?_drop] at hx hu
 exact h.2 _ x u hx hu
theorem Pw.at_ {cs:List α} {us:List β} (h:Pw R cs us) {k:Nat} {x:α} (hx:cs[k]?=some x):∃ u,us[k]?=some u∧R x u:=by
 have hk:k < us.length:=by rw [h.1];exact (List.getElem?_eq_some_iff.1 hx).1
 exact ⟨_,List.getElem?_eq_getElem hk,h.2 k x _ hx (List.getElem?_eq_getElem hk)⟩
def setRange {α:Type} (cs:List α) (off:Nat) (vs:List α):List α:=cs.take off++vs++cs.drop (off + vs.length)
theorem Pw.setRange {cs ds:List α} {us vs:List β} (h:Pw R cs us) (h':Pw R ds vs) (off:Nat):Pw R (setRange cs off ds) (setRange us off vs):=by
 unfold Ab.setRange
 rw [h'.1]
 exact ((h.take off).append h').append (h.drop _)
end
inductive Kd where
 | struct (fs:List (Nat×Nat))
 | slice (e es eb:Nat)
 | int (k:IntKind)
 | str
 | bool
 | arr
 | other
structure Ty where
 k:Kd
 size:Nat
 bytes:Nat
 zero:Option (List V)
def constV:Value→V
 | .int k n=>if (Lit.int k n).wf=true then .t (.int k n) else .lit (.int k n)
 | .bool b=>.t (.bool b)
 | .string s=>if s.size≤maxLen then .t (.str s.data.toList) else .lit (.string s)
 | .slice none 0 0=>.t .nil
 | v=>.lit v
def Zom:Value→V
 | .agg cs=>.agg (cs.toList.map constV)
 | v=>constV v
def Kd.agg:Kd→Bool
 | .struct _ | .arr=>true
 | _=>false
def kdOf (P:Program):TypeDesc→Kd
 | .struct fs=>.struct (fs.toList.map fun f=>(f.offset,P.cellsOf f.type))
 | .array _ _=>.arr
 | .slice e=>.slice e (P.cellsOf e) (P.bytesOf e)
 | .int k=>.int k
 | .string=>.str
 | .bool=>.bool
 | _=>.other
def Zac (P:Program) (t:TypeId):Option Ty :=
 match P.underlying t,P.info? t with
 | some d,some i=>some ⟨kdOf P d,i.size,i.bytes,i.zero.map fun z=>z.cells.toList.map constV⟩
 | _,_=>none
section
variable {P:Program} {t:TypeId} {y:Ty} (w:World)
theorem Zaw (h:Zac P t=some y):∃ d i,P.underlying t=some d∧P.info? t=some i∧y.k=kdOf P d∧y.size=i.size∧y.bytes=i.bytes∧y.zero=i.zero.map fun z=>z.cells.toList.map constV:=by
 unfold Zac at h
 split at h
 ·rename_i d i hd hi
  cases h
  exact ⟨d,i,hd,hi,rfl,rfl,rfl,rfl⟩
 ·cases h
theorem ZfC (h:Zac P t=some y):(isAgg t).run P w=.ok y.k.agg w:=by
 obtain ⟨d,i,hd,hi,hk,_⟩:=Zaw h
 unfold isAgg
 rw [Sem.run_bind,run_underlying hd,Result.andThen_ok,hk]
 cases d<;>rfl
theorem ZeO (h:Zac P t=some y):(sizeOf t).run P w=.ok y.size w:=by
 obtain ⟨d,i,hd,hi,hk,hs,_⟩:=Zaw h
 simp [sizeOf,typeInfo,hi,hs]
theorem ZeD (h:Zac P t=some y):P.cellsOf t=y.size:=by
 obtain ⟨d,i,hd,hi,hk,hs,_⟩:=Zaw h
 simp [Program.cellsOf,hi,hs]
theorem ZaM {e es eb:Nat} (h:Zac P t=some y) (hk:y.k=.slice e es eb):P.underlying t=some (.slice e)∧P.cellsOf e=es∧P.bytesOf e=eb:=by
 obtain ⟨d,i,hd,hi,hk',_⟩:=Zaw h
 rw [hk'] at hk
 cases d<;>simp [kdOf] at hk
 obtain ⟨rfl,h1,h2⟩:=hk
 exact ⟨hd,h1,h2⟩
theorem Znc {fs:List (Nat×Nat)} (h:Zac P t=some y) (hk:y.k=.struct fs):∃ gs,P.underlying t=some (.struct gs)∧fs=gs.toList.map fun f=>(f.offset,P.cellsOf f.type):=by
 obtain ⟨d,i,hd,hi,hk',_⟩:=Zaw h
 rw [hk'] at hk
 cases d<;>simp [kdOf] at hk
 exact ⟨_,hd,hk.symm⟩
end
def St.ev (st:St):Operand→V
 | .tmp t=>match Nat.blt t st.n with|true=>Zcm st.tmps t|false=>.junk
 | .const v=>Zom v
 | .func f=>.lit (.func (.func f) #[] #[])
 | .global _=>.junk
def St.put (st:St) (d:Option Tmp) (v:V):St :=
 match d with
 | some d=>{ st with tmps:=(d,v) :: st.tmps }
 | none=>st
theorem bs_eta (s:ByteArray):bs s.data.toList=s:=by cases s;simp [bs]
section
variable {P:Program} {w:World} {lk:Nat→Option (Nat×Ob)} {pl:Nat→Value} {Fr:Nat→Prop}
theorem C0.c1 {v:V} {u:Value} (h:C0 P w lk pl Fr v u):C1 P w lk pl Fr v u:=by
 cases v<;>first|exact h|exact h.elim
theorem C1.c2 {v:V} {u:Value} (h:C1 P w lk pl Fr v u):C2 P w lk pl Fr v u:=by
 cases v<;>first|exact h|exact h.elim
theorem C0.c2 {v:V} {u:Value} (h:C0 P w lk pl Fr v u):C2 P w lk pl Fr v u:=h.c1.c2
theorem ZeE (u:Value):C0 P w lk pl Fr (constV u) u:=by
 unfold constV
 split
 ·split
  ·rename_i h;exact Rd.int h
  ·rfl
 ·exact Rd.bool
 ·rename_i s
  split
  ·rename_i h
   show Rd P w Fr (.str s.data.toList) (.string s)
   have:Rd P w Fr (.str s.data.toList) (.string (bs s.data.toList)):=.str (by rw [Array.length_toList];exact h)
   rwa [bs_eta] at this
  ·rfl
 ·exact Rd.nil
 ·rfl
theorem Zon (u:Value):C1 P w lk pl Fr (Zom u) u:=by
 unfold Zom
 split
 ·rename_i cs
  refine ⟨cs.toList,by simp,by simp,fun k v x hv hx=>?_⟩
  rw [List.getElem?_map,hx] at hv
  cases hv
  exact ZeE x
 ·exact (ZeE _).c1
end
section
variable {P:Program} {B:Nat→Prop} {W:En} {st:St} {a:Act} {w:World} {pl:Nat→Value} {F:Nat→Nat→Prop}
theorem SimW.ev (h:SimW P B W st a w pl F) (x:Operand):C2 P w (look st.objs) pl (Free B W.o (look st.objs) F w) (st.ev x) (a.eval x):=by
 cases x with
 | tmp t =>
  show C2 _ _ _ _ _ (match Nat.blt t st.n with|true=>Zcm st.tmps t|false=>.junk) (a.tmps.getD t undef)
  cases hv:Nat.blt t st.n with
  | false=>trivial
  | true=>exact h.tmps t (Nat.le_of_ble_eq_true hv)
 | const v=>exact (Zon v).c2
 | func f=>rfl
 | global g=>trivial
theorem SimW.put (h:SimW P B W st a w pl F) {v:V} {u:Value} (hv:C2 P w (look st.objs) pl (Free B W.o (look st.objs) F w) v u) (d:Option Tmp):SimW P B W (st.put d v) (a.put d u) w pl F:=by
 cases d with
 | none=>exact h
 | some d =>
  refine ⟨h.old,by simp [St.put,Act.put,h.size],h.defers,h.below,fun i hi=>?_,h.objs,h.range,h.apart,h.hist⟩
  have hi':i < st.n:=hi
  show C2 _ _ _ _ _ (Zcm ((d,v) :: st.tmps) i) ((a.tmps.setIfInBounds d u).getD i undef)
  rw [ZcH,Array.getD_eq_getD_getElem?,Array.getElem?_setIfInBounds]
  by_cases hd:d=i
  ·subst hd
   rw [if_pos rfl,if_pos rfl,if_pos (by rw [h.size];exact hi')]
   exact hv
  ·rw [if_neg hd,if_neg hd,← Array.getD_eq_getD_getElem?]
   exact h.tmps i hi'
theorem SimW.below_ (h:SimW P B W st a w pl F) {w':World} (hw:Below w.heap.size w w'):SimW P B W st a w' pl F:=by
 have g:Goes P w w' (look st.objs) (look st.objs) pl pl (Free B W.o (look st.objs) F w) (Free B W.o (look st.objs) F w') :=
  ⟨fun b hb=>⟨hb.1,Nat.lt_of_lt_of_le hb.2.1 hw.size,hb.2.2⟩,fun b hb=>hw.block b hb.2.1,fun o ep ob ho=>⟨ep,ob,ho,.inr ⟨rfl,rfl,rfl,rfl⟩⟩⟩
 refine ⟨h.old,h.size,h.defers,h.below.trans (Below.kp hw h.below.size),fun i hi=>(h.tmps i hi).goes g,fun o ep ob ho=>?_,fun o x b ho hf=>?_,h.apart,h.hist⟩
 ·exact (h.objs o ep ob ho).goes (fun b hb=>hw.block b (h.range o _ b ho hb).2) (fun _ _ hc=>C0.goes g hc) (fun _ _ hr=>hr.mono g.more g.heap)
 ·have:=h.range o x b ho hf
  exact ⟨this.1,Nat.lt_of_lt_of_le this.2 hw.size⟩
end
def updl (objs:List (Nat×Nat×Ob)):List (Nat×Nat×Ob)→List (Nat×Nat×Ob)
 | []=>objs
 | x :: r=>updl (x :: objs) r
def St.upds (st:St) (upd:List (Nat×Nat×Ob)):St:={ st with objs:=updl st.objs upd }
def kindOf:Op→Nat
 | .move _=>0 | .assign _=>1 | .pick ..=>2 | .alloc _=>3 | .box ..=>4 | .build ..=>5 | .buildSlice ..=>6 | .load ..=>7 | .store ..=>8 | .nilCheck _=>9
 | .binOp ..=>10 | .unOp ..=>11 | .convert ..=>12 | .makeSlice ..=>13 | .slice ..=>14 | .fieldAddr ..=>15 | .field ..=>16 | .indexAddr ..=>17 | .index ..=>18 | .extract ..=>19 | .call _=>20 | .makeFunc ..=>21
 | _=>22
structure Keeps (B:Nat→Prop) (W:En) (objs objs' upd:List (Nat×Nat×Ob)) (w w':World) (F F':Nat→Nat→Prop):Prop where
 free:∀ b,Free B W.o (look objs) F w b→Free B W.o (look objs') F' w' b
 heap:∀ b,Free B W.o (look objs) F w b→w'.heap[b]?=w.heap[b]?
 own:∀ o x b,look objs o=some x→(∀ e ob,(o,e,ob) ∉ upd)→F o b→F' o b∧w'.heap[b]?=w.heap[b]?
def OpS (P:Program) (B:Nat→Prop) (W:En) (o:Oper) (st:St) (KE:V→List (Nat×Nat×Ob)→Prop):Prop :=
 ∀ a w pl F,SimW P B W st a w pl F→∀ (next:Act→World→Prop) (Q:Exit→Act→World→Prop),(∀ v upd a' w' pl' F',SimW P B W ((st.upds upd).put o.dst v) a' w' pl' F'→Keeps B W st.objs ((st.upds upd).put o.dst v).objs upd w w' F F'→KE v upd→next a' w')→o.wp P a w next Q
section
variable {P:Program} {B:Nat→Prop} {W:En} {o:Oper} {st:St} {KE:V→List (Nat×Nat×Ob)→Prop}
theorem wp_val {a:Act} {w w':World} {u:Value} {next:Act→World→Prop} {Q:Exit→Act→World→Prop} (h:(execOp a.eval o).run P w=.ok (.value u) w') (hn:next (a.put o.dst u) w'):o.wp P a w next Q:=by
 unfold Oper.wp;rw [h];exact hn
theorem wp_unit {a:Act} {w w':World} {next:Act→World→Prop} {Q:Exit→Act→World→Prop} (h:(execOp a.eval o).run P w=.ok .skip w') (hn:next (a.put o.dst undef) w'):o.wp P a w next Q:=by
 unfold Oper.wp;rw [h];exact hn
theorem OpS.k {n:Nat} (_:kindOf o.op=n) (h:OpS P B W o st KE):OpS P B W o st KE:=h
theorem Ze4 (st:St) (d:Option Nat) (v:V):(st.put d v).objs=st.objs:=by cases d<;>rfl
theorem OpS.pure_ {v:V} (hK:KE v []) (h:∀ a w pl F,SimW P B W st a w pl F→∃ u,(execOp a.eval o).run P w=.ok (.value u) w∧C2 P w (look st.objs) pl (Free B W.o (look st.objs) F w) v u):OpS P B W o st KE:=by
 intro a w pl F hs next Q hn
 obtain ⟨u,hr,hu⟩:=h a w pl F hs
 exact wp_val hr (hn v [] _ _ pl F (hs.put hu _) ⟨fun b hb=>by rw [Ze4];exact hb,fun _ _=>rfl,fun _ _ _ _ _ hf=>⟨hf,rfl⟩⟩ hK)
theorem Zap {s:Sem Value} {w w':World} {u:Value} (h:s.run P w=.ok u w'):(do pure (Next.value (← s)):Sem Next).run P w=.ok (.value u) w':=by
 simp [h]
end
def nep (lk:Option (Nat×Ob)):Nat:=match lk with|some (e,_)=>e + 1|none=>1
theorem ZeH (lk:Option (Nat×Ob)):0 < nep lk:=by unfold nep;split<;>omega
def ZaT:V→List V
 | .agg cs=>cs
 | v=>[v]
def V.sto:V→Bool
 | .t _ | .hnd _ _ | .ptr .. | .rptr .. | .view ..=>true
 | .lit v=>v.oneCell'
 | _=>false
section
variable {P:Program} {w:World} {lk:Nat→Option (Nat×Ob)} {pl:Nat→Value} {Fr:Nat→Prop}
theorem C0.one {v:V} {u:Value} (h:C0 P w lk pl Fr v u) (hs:v.sto=true):u.oneCell'=true:=by
 cases v with
 | t x=>exact Rd.one h
 | hnd o ep=>exact h.1
 | ptr o ep i off=>exact h.1
 | view o ep i n=>exact h.1
 | rptr cs off=>obtain ⟨ad,rfl,_⟩:=h;rfl
 | lit v=>cases h;exact hs
 | _=>cases hs
theorem Zkh {u:Value} (h:u.oneCell'=true):u.cells=#[u]:=by cases u<;>first|rfl|cases h
theorem C1.cells {v:V} {u:Value} (h:C1 P w lk pl Fr v u) (hs:(ZaT v).all V.sto=true):∃ us:List Value,u.cells=us.toArray∧Pw (C0 P w lk pl Fr) (ZaT v) us∧∀ x ∈ us,x.oneCell'=true:=by
 cases v with
 | agg cs =>
  obtain ⟨us,rfl,h1,h2⟩:=h
  refine ⟨us,rfl,⟨h1,h2⟩,fun x hx=>?_⟩
  obtain ⟨k,hk,rfl⟩:=List.getElem_of_mem hx
  have hk':k < cs.length:=by omega
  exact (h2 k _ _ (List.getElem?_eq_getElem hk') (List.getElem?_eq_getElem hk)).one (List.all_eq_true.1 hs _ (List.getElem_mem hk'))
 | tup=>exact h.elim
 | fr=>exact h.elim
 | _ =>
  unfold C1 at h
  have h0:=h
  have h1:=h0.one (by simpa [ZaT] using hs)
  exact ⟨[u],Zkh h1,Pw.cons h0 Pw.nil,by simp [h1]⟩
theorem C2.c1 {v:V} {u:Value} (h:C2 P w lk pl Fr v u) (hs:(ZaT v).all V.sto=true):C1 P w lk pl Fr v u:=by
 cases v<;>first|exact h|(simp [ZaT,V.sto] at hs)
end
theorem Zml (st:St) (upd:List (Nat×Nat×Ob)):st.upds upd={ st with objs:=updl st.objs upd }:=rfl
def ZdT (ks:List (Nat×Nat)):List (Nat×Nat×Ob):=ks.map fun p=>(p.1,p.2 + 1,Ob.gone)
theorem ZoM {ks:List (Nat×Nat)} {j e:Nat} (h:(j,e) ∈ ks):(j,e + 1,Ob.gone) ∈ ZdT ks:=List.mem_map.2 ⟨(j,e),h,rfl⟩
theorem ZcY (ks:List (Nat×Nat)):∀ (objs:List (Nat×Nat×Ob)) (i:Nat),(∀ e,(i,e) ∉ ks)→look (updl objs (ZdT ks)) i=look objs i:=by
 induction ks with
 | nil=>intro objs i _;rfl
 | cons p r ih =>
  intro objs i h
  show look (updl (updo objs p.1 (p.2 + 1) .gone) (ZdT r)) i=_
  rw [ih _ _ fun e he=>h e (by simp [he]),ZdV,if_neg]
  rintro rfl
  exact h p.2 (by simp)
theorem Zit (ks:List (Nat×Nat)):∀ (objs:List (Nat×Nat×Ob)) (i e:Nat),(i,e) ∈ ks→(∀ e',(i,e') ∈ ks→e'=e)→look (updl objs (ZdT ks)) i=some (e + 1,.gone):=by
 induction ks with
 | nil=>intro objs i e h;cases h
 | cons p r ih =>
  intro objs i e h hu
  show look (updl (updo objs p.1 (p.2 + 1) .gone) (ZdT r)) i=_
  by_cases hr:∃ e',(i,e') ∈ r
  ·obtain ⟨e',he'⟩:=hr
   have h1:=hu e' (by simp [he'])
   subst h1
   exact ih _ _ _ he' fun e'' h''=>hu e'' (by simp [h''])
  ·rw [ZcY _ _ _ fun e' he'=>hr ⟨e',he'⟩,ZdV]
   rcases List.mem_cons.1 h with rfl|h
   ·simp
   ·exact absurd ⟨e,h⟩ hr
section
variable {P:Program} {B:Nat→Prop} {W:En} {o:Oper} {st:St} {KE:V→List (Nat×Nat×Ob)→Prop}
theorem OpS.chg {i ep:Nat} {ob:Ob} {v:V} {ks:List (Nat×Nat)} (hK:KE v ((i,ep,ob) :: ZdT ks)) (hks:∀ x e,(x,e) ∈ ks→x ≠ i∧∃ b,look st.objs x=some (e,b))
  (h:∀ a w pl F,SimW P B W st a w pl F→∃ nx w' v' F' u,(execOp a.eval o).run P w=.ok nx w'∧(nx=.value u∨nx=.skip∧u=undef)∧Kp W w w'∧(∀ b,b < w.heap.size→(∀ x,look st.objs i=some x→¬ F i b)→w'.heap[b]?=w.heap[b]?) ∧
   (∀ ep0 ob0,look st.objs i=some (ep0,ob0)→ep0 < ep∨(ep0=ep∧v'=pl i∧ob.isRow=ob0.isRow∧esz P ob=esz P ob0))∧(look st.objs i=none→0 < ep) ∧
   (∀ b,F' b→(w.heap.size≤b∧b < w'.heap.size)∨Gone (look st.objs) F i (fun j=>∃ e,(j,e) ∈ ks) b) ∧
   (∀ lk' pl' Fr',Goes P w w' (look st.objs) lk' pl pl' (Free B W.o (look st.objs) F w) Fr'→(∀ b,Gone (look st.objs) F i (fun j=>∃ e,(j,e) ∈ ks) b→¬ F' b→Fr' b)→lk' i=some (ep,ob)→pl' i=v' →
    ObR P w' (C0 P w' lk' pl' Fr') (Rd P w' Fr') v' F' ob∧C2 P w' lk' pl' Fr' v u)):OpS P B W o st KE:=by
 intro a w pl F hs next Q hn
 obtain ⟨nx,w',v',F',u,hr,hnx,hb,hch,hep,hne,hF,hv⟩:=h a w pl F hs
 have hl1:∀ j,look (updl st.objs ((i,ep,ob) :: ZdT ks)) j=look (updl (updo st.objs i ep ob) (ZdT ks)) j:=fun _=>rfl
 have hli:look (updl st.objs ((i,ep,ob) :: ZdT ks)) i=some (ep,ob):=by
  rw [hl1,ZcY _ _ _ fun e he=>(hks i e he).1 rfl,ZdV,if_pos rfl]
 obtain ⟨pl',F'',h1,h2,h3,h3',h3s⟩:=hs.change (o:=i) (ep:=ep) (ob:=ob) (v':=v') (F':=F') (K:=fun j=>∃ e,(j,e) ∈ ks) (objs':=updl st.objs ((i,ep,ob) :: ZdT ks)) hb hch hli
  (fun j hj hk=>by rw [hl1,ZcY _ _ _ fun e he=>hk ⟨e,he⟩,ZdV,if_neg (Ne.symm hj)])
  (fun j hj hk=>by
   obtain ⟨e,he⟩:=hk
   obtain ⟨_,b,hb⟩:=hks j e he
   refine ⟨e,b,hb,?_⟩
   rw [hl1]
   refine Zit ks _ _ _ he fun e' he'=>?_
   obtain ⟨_,b',hb'⟩:=hks j e' he'
   rw [hb] at hb'
   cases hb'
   rfl) hep hne hF (fun lk' pl' Fr' g hg e1 e2=>(hv lk' pl' Fr' g hg e1 e2).1)
 have h4:=h1.put (hv _ _ _ h3 h3' hli h2).2 o.dst
 rw [← Zml] at h4
 have hkp:Keeps B W st.objs ((st.upds ((i,ep,ob) :: ZdT ks)).put o.dst v).objs ((i,ep,ob) :: ZdT ks) w w' F F'':=by
  rw [Ze4]
  refine ⟨h3.more,h3.heap,fun j x b hj hno hf=>?_⟩
  have hji:j ≠ i:=fun e=>hno ep ob (by rw [e];simp)
  have hjk:¬ ∃ e,(j,e) ∈ ks:=fun ⟨e,he⟩=>hno (e + 1) .gone (List.mem_cons_of_mem _ (ZoM he))
  exact ⟨by rw [h3s j hji hjk];exact hf,hch b (hs.range j x b hj hf).2 fun y hy hf'=>hs.apart j i _ _ b hji hj hy hf hf'⟩
 rcases hnx with rfl|⟨rfl,rfl⟩
 ·exact wp_val hr (hn _ _ _ _ _ _ h4 hkp hK)
 ·exact wp_unit hr (hn _ _ _ _ _ _ h4 hkp hK)
theorem OpS.move {x:Operand} (ho:o.op=.move x∨o.op=.assign x) (hK:KE (st.ev x) []):OpS P B W o st KE :=
 OpS.pure_ hK fun a w pl F hs=>⟨a.eval x,by rcases ho with ho|ho<;>(unfold execOp;rw [ho];rfl),hs.ev x⟩
theorem OpS.mv {x:Operand} {v:V} (ho:o.op=.move x∨o.op=.assign x) (hx:st.ev x=v) (hK:KE v []):OpS P B W o st KE:=OpS.move ho (by rw [hx];exact hK)
theorem OpS.pick {c x y:Operand} {t:Bool} (ho:o.op=.pick c x y) (hc:st.ev c=.t (.bool t)) (hK:KE (if t then st.ev x else st.ev y) []):OpS P B W o st KE :=
 OpS.pure_ hK fun a w pl F hs=>by
  have h:=hs.ev c
  rw [hc] at h
  cases h':a.eval c<;>rw [h'] at h<;>cases h
  refine ⟨if t then a.eval x else a.eval y,by unfold execOp;rw [ho];simp [h',asBool],?_⟩
  cases t
  ·exact hs.ev y
  ·exact hs.ev x
theorem OpS.pick_t {c x y:Operand} {t:Bool} {v:V} (ho:o.op=.pick c x y) (hc:st.ev c=.t (.bool t)) (ht:t=true) (hx:st.ev x=v) (hK:KE v []):OpS P B W o st KE:=OpS.pick ho hc (by rw [if_pos ht,hx];exact hK)
theorem OpS.pick_f {c x y:Operand} {t:Bool} {v:V} (ho:o.op=.pick c x y) (hc:st.ev c=.t (.bool t)) (ht:t=false) (hx:st.ev y=v) (hK:KE v []):OpS P B W o st KE:=OpS.pick ho hc (by rw [if_neg (by simp [ht]),hx];exact hK)
theorem Zd2 (w:World) (ob:Obj):Below w.heap.size w (w.alloc ob):=(Below.refl _ _).alloc (Nat.le_refl _) _
theorem Zoe {w:World} (hb:Kp W W.toWorld w) (ob:Obj):Kp W w (w.alloc ob):=Below.kp (Zd2 w ob) hb.size
theorem ZgQ {l:Option (Nat×Ob)} {ep0:Nat} {ob0:Ob} (h:l=some (ep0,ob0)):ep0 < nep l:=by subst h;exact Nat.lt_succ_self _
theorem OpS.newbox {site ep:Nat} {ty:TypeId} {cs:List V} (hep:nep (look st.objs site)=ep) (hK:KE (.ptr site ep 0 0) [(site,ep,.box ty cs)])
  (h:∀ a w pl F,SimW P B W st a w pl F→∃ us:List Value,(execOp a.eval o).run P w=.ok (.value (.pointer (some ⟨w.heap.size,0,none⟩))) (w.alloc (.cells us.toArray ty))∧Pw (C0 P w (look st.objs) pl (Free B W.o (look st.objs) F w)) cs us):OpS P B W o st KE:=by
 subst hep
 refine OpS.chg (ks:=[]) (i:=site) (ep:=nep (look st.objs site)) hK (fun x e h=>by cases h) fun a w pl F hs=>?_
 obtain ⟨us,hr,hp⟩:=h a w pl F hs
 refine ⟨_,_,.pointer (some ⟨w.heap.size,0,none⟩),fun b=>b=w.heap.size,_,hr,.inl rfl,Zoe hs.below _,fun b hb _=>Below.heap_alloc w _ b hb,fun ep0 ob0 h0=>.inl (ZgQ h0),fun _=>ZeH _,fun b hb=>.inl (by subst hb;simp),fun lk' pl' Fr' g _ h1 h2=>⟨⟨w.heap.size,us,rfl,fun _=>Iff.rfl,heap_alloc_new w _,hp.1,fun k x u hx hu=>C0.goes g (hp.2 k x u hx hu)⟩,rfl,_,_,h1,Nat.le_refl _,fun _=>⟨w.heap.size,0,by rw [h2];rfl,by simp⟩⟩⟩
theorem OpS.box {site ep:Nat} {e:TypeId} {x:Operand} {v:V} (ho:o.op=.box e x) (hd:o.dst=some site) (hx:st.ev x=v) (hs:(ZaT v).all V.sto=true) (hep:nep (look st.objs site)=ep) (hK:KE (.ptr site ep 0 0) [(site,ep,.box e (ZaT v))]):OpS P B W o st KE:=by
 subst hx
 exact OpS.newbox hep hK fun a w pl F h=>by
  obtain ⟨us,h1,h2,_⟩:=((h.ev x).c1 hs).cells hs
  refine ⟨us,?_,h2⟩
  unfold execOp
  rw [ho]
  simp [Instr.box,newVar,newRow,h1]
theorem OpS.alloc {site ep:Nat} {e:TypeId} {y:Ty} {zs:List V} (ho:o.op=.alloc e) (hd:o.dst=some site) (hy:Zac P e=some y) (hz:y.zero=some zs) (hep:nep (look st.objs site)=ep) (hK:KE (.ptr site ep 0 0) [(site,ep,.box e zs)]):OpS P B W o st KE :=
 OpS.newbox hep hK fun a w pl F h=>by
  obtain ⟨d,i,hd,hi,hk,hs,hb,hzz⟩:=Zaw hy
  rw [hz] at hzz
  obtain ⟨z,hz1,hz2⟩:=Option.map_eq_some_iff.1 hzz.symm
  refine ⟨z.cells.toList,?_,?_⟩
  ·unfold execOp
   rw [ho]
   simp [Instr.alloc,zeroValue,typeInfo,hi,hz1,newVar,newRow]
  ·rw [← hz2]
   refine ⟨by simp,fun k x u hx hu=>?_⟩
   rw [List.getElem?_map,hu] at hx
   cases hx
   exact ZeE u
def Zdp (ag:Bool) (n:Nat) (cs:List V) (off:Nat):Option V:=if ag then (if off + n≤cs.length then some (.agg ((cs.drop off).take n)) else none) else cs[off]?
theorem Zcw {t:TypeId} {y:Ty} (hy:Zac P t=some y) {w:World} {lk:Nat→Option (Nat×Ob)} {pl:Nat→Value} {Fr:Nat→Prop} {cs:List V} {off:Nat} {v:V} (hv:Zdp y.k.agg y.size cs off=some v) (ad:Addr)
  (hc:∀ (j:Nat) (x:V),cs[off + j]?=some x→∃ u,w.cell? (ad.add j)=some u∧C0 P w lk pl Fr x u):∃ u,(loadVar t ad).run P w=.ok u w∧C2 P w lk pl Fr v u:=by
 unfold loadVar
 rw [Sem.run_bind,ZfC w hy,Result.andThen_ok]
 unfold Zdp at hv
 cases hag:y.k.agg
 ·rw [hag] at hv
  simp only [Bool.false_eq_true,if_false] at hv ⊢
  obtain ⟨u,h1,h2⟩:=hc 0 v (by simpa using hv)
  have h1':w.cell? ad=some u:=by simpa [Addr.add] using h1
  exact ⟨u,by rw [run_load,h1'],h2.c2⟩
 ·rw [hag] at hv
  simp only [if_true] at hv ⊢
  split at hv
  ·rename_i hle
   cases hv
   have hx:∀ j,j < y.size→∃ u,w.cell? (ad.add j)=some u∧∀ x,cs[off + j]?=some x→C0 P w lk pl Fr x u:=fun j hj=>by
    have hlt:off + j < cs.length:=by omega
    obtain ⟨u,h1,h2⟩:=hc j _ (List.getElem?_eq_getElem hlt)
    exact ⟨u,h1,fun x hx=>by rw [List.getElem?_eq_getElem hlt] at hx;cases hx;exact h2⟩
   let f:Nat→Value:=fun j=>(w.cell? (ad.add j)).getD undef
   have hf:∀ j,j < y.size→w.cell? (ad.add j)=some (f j):=fun j hj=>by
    obtain ⟨u,h1,_⟩:=hx j hj
    show _=some ((w.cell? (ad.add j)).getD undef)
    rw [h1];rfl
   refine ⟨.agg ((List.range y.size).map f).toArray,?_,?_⟩
   ·rw [Sem.run_bind,ZeO w hy,Result.andThen_ok,Sem.run_bind,run_loadCells w ad y.size f hf,Result.andThen_ok]
    rfl
   ·refine ⟨(List.range y.size).map f,rfl,by simp;omega,fun k x u h1 h2=>?_⟩
    rw [List.getElem?_take] at h1
    split at h1
    ·rename_i hk
     rw [List.getElem?_drop] at h1
     rw [List.getElem?_map,List.getElem?_range hk] at h2
     obtain ⟨u',h3,h4⟩:=hx k hk
     have:u=u':=by
      have h5:=hf k hk
      rw [h3] at h5
      cases h2
      exact (Option.some.inj h5).symm
     rw [this]
     exact h4 x h1
    ·cases h1
  ·cases hv
theorem Zdh {ty:TypeId} {x:Operand} {a:Act} {w:World} {ad:Addr} {u:Value} (ho:o.op=.load ty x) (hx:a.eval x=.pointer (some ad)) (hr:(loadVar ty ad).run P w=.ok u w):(execOp a.eval o).run P w=.ok (.value u) w:=by
 unfold execOp
 rw [ho]
 refine Zap ?_
 rw [hx]
 simp [Instr.loadAt,Instr.sureAddr,hr]
theorem OpS.load_box {ty:TypeId} {x:Operand} {i ep off:Nat} {bt:TypeId} {cs:List V} {y:Ty} {v:V} (ho:o.op=.load ty x) (hx:st.ev x=.ptr i ep 0 off) (hl:look st.objs i=some (ep,.box bt cs)) (hy:Zac P ty=some y)
  (hv:Zdp y.k.agg y.size cs off=some v) (hK:KE v []):OpS P B W o st KE :=
 OpS.pure_ hK fun a w pl F hs=>by
  have h1:=hs.ev x
  rw [hx] at h1
  obtain ⟨_,ep',ob,h2,h3,h4⟩:C0 P w (look st.objs) pl (Free B W.o (look st.objs) F w) (.ptr i ep 0 off) (a.eval x):=h1
  rw [hl] at h2
  cases h2
  obtain ⟨g,bb,hg,hu⟩:=h4 rfl
  obtain ⟨g',us,h5,h6,h7,h8⟩:=hs.objs i _ _ hl
  rw [h5] at hg
  simp only [blk,Option.some.injEq,Prod.mk.injEq] at hg
  obtain ⟨rfl,rfl⟩:=hg
  obtain ⟨u,h9,h10⟩:=Zcw hy hv ⟨g',0 + (0 * esz P (.box bt cs) + off),none⟩ (lk:=look st.objs) (pl:=pl) (Fr:=Free B W.o (look st.objs) F w) (w:=w) fun j z hz=>by
   obtain ⟨u,hu1,hu2⟩:=Pw.at_ (R:=C0 P w (look st.objs) pl (Free B W.o (look st.objs) F w)) ⟨h8.1,h8.2⟩ hz
   refine ⟨u,?_,hu2⟩
   rw [ZaS,cell_of_row w g' _ _ _ _ h7]
   simpa using hu1
  exact ⟨u,Zdh ho hu h9,h10⟩
theorem OpS.load_rptr {ty:TypeId} {x:Operand} {off:Nat} {cs:List T} {y:Ty} {v:V} (ho:o.op=.load ty x) (hx:st.ev x=.rptr cs off) (hy:Zac P ty=some y)
  (hv:Zdp y.k.agg y.size (cs.map .t) off=some v) (hK:KE v []):OpS P B W o st KE :=
 OpS.pure_ hK fun a w pl F hs=>by
  have h1:=hs.ev x
  rw [hx] at h1
  obtain ⟨ad,h2,h3⟩:C0 P w (look st.objs) pl (Free B W.o (look st.objs) F w) (.rptr cs off) (a.eval x):=h1
  obtain ⟨u,h9,h10⟩:=Zcw hy hv ad (lk:=look st.objs) (pl:=pl) (Fr:=Free B W.o (look st.objs) F w) (w:=w) fun j z hz=>by
   rw [List.getElem?_map,Option.map_eq_some_iff] at hz
   obtain ⟨q,hq,rfl⟩:=hz
   obtain ⟨_,u,hu,hr⟩:=h3 j q hq
   exact ⟨u,hu,hr⟩
  exact ⟨u,Zdh ho h2 h9,h10⟩
theorem setRow_other (w:World) (g:Nat) (cs:Array Value) (b:Nat) (h:b ≠ g):(w.setRow g cs).heap[b]?=w.heap[b]?:=by
 simp [World.setRow,Array.getElem?_modify,Ne.symm h]
theorem below_setRow {W:En} {w:World} {g:Nat} (hg:W.o g) (cs:Array Value):Kp W w (w.setRow g cs) :=
 ⟨rfl,rfl,rfl,by simp,fun k hk=>setRow_other w g cs k fun e=>hk (by rw [e];exact hg)⟩
theorem ZgA {ty:TypeId} {x z:Operand} {a:Act} {w w':World} {ad:Addr} {y:Ty} (ho:o.op=.store ty x z) (hy:Zac P ty=some y) (hx:a.eval x=.pointer (some ad)) (hn:(a.eval z).cells.size=y.size) (hr:(storeCells ad (a.eval z).cells.toList).run P w=.ok () w'):(execOp a.eval o).run P w=.ok .skip w':=by
 unfold execOp
 rw [ho]
 simp [Instr.storeAt,Instr.sureAddr,hx,storeVar,ZeO w hy,hn,hr]
theorem pU4 {X:Prop} (r:X:=by first|exact e6fb rfl|exact ed24 rfl|exact e639 rfl|exact e855 rfl|exact e5cc rfl|exact e9a0 rfl):X:=r
theorem q7344 {ty:TypeId} {x z:Operand} {i ep off:Nat} {bt:TypeId} {cs:List V} {y:Ty} {v:V} {cs':List V} (hK:KE (.lit undef) [(i,ep,.box bt cs')]) (ho:o.op=.store ty x z:=by exact rfl) (hx:st.ev x=.ptr i ep 0 off:=by exact rfl) (hl:look st.objs i=some (ep,.box bt cs):=by exact rfl) (hy:Zac P ty=some y:=by exact Tryz.ti rfl) (hz:st.ev z=v:=by exact pU4) (hs:(ZaT v).all V.sto=true:=by exact rfl) (hn:(ZaT v).length=y.size:=by exact rfl) (hle:Nat.ble (off + (ZaT v).length) cs.length=true:=by exact rfl) (hcs:setRange cs off (ZaT v)=cs':=by first|exact e679 rfl|exact ecef rfl|exact eee1 rfl|exact e21e rfl|exact ec55 rfl|exact e10f rfl):OpS P B W o st KE:=by
 subst hz hcs
 have hle:=Nat.le_of_ble_eq_true hle
 refine OpS.chg (ks:=[]) hK (fun x e h=>by cases h) fun a w pl F h=>?_
 have h1:=h.ev x
 rw [hx] at h1
 obtain ⟨_,ep',ob,h2,h3,h4⟩:C0 P w (look st.objs) pl (Free B W.o (look st.objs) F w) (.ptr i ep 0 off) (a.eval x):=h1
 rw [hl] at h2
 cases h2
 obtain ⟨g,bb,hg,hu⟩:=h4 rfl
 obtain ⟨g',us,h5,h6,h7,h8⟩:=h.objs i _ _ hl
 rw [h5] at hg
 simp only [blk,Option.some.injEq,Prod.mk.injEq] at hg
 obtain ⟨rfl,rfl⟩:=hg
 simp only [Nat.zero_mul,Nat.zero_add] at hu
 obtain ⟨vs,hv1,hv2,hv3⟩:=((h.ev z).c1 hs).cells hs
 have hlen:vs.length=(ZaT (st.ev z)).length:=hv2.1
 have h8':us.length=cs.length:=h8.1
 have hrun:=run_storeCells_at P g' off bt vs 0 us.toArray w h7 (by simp;omega) hv3
 have hN:=(h.range i _ g' hl ((h6 g').2 rfl)).1
 refine ⟨_,_,pl i,F i,undef,ZgA ho hy hu (by rw [hv1];simp;omega) (by rw [hv1];simpa using hrun),.inr ⟨rfl,rfl⟩,below_setRow hN _,fun b hb hf=>setRow_other w g' _ b fun e=>hf _ hl ((h6 b).2 e),fun ep0 ob0 h0=>?_,fun h0=>(by rw [hl] at h0;cases h0),fun b hb=>.inr (.inl ⟨_,hl,hb⟩),fun lk' pl' Fr' gg _ _ _=>⟨?_,rfl⟩⟩
 ·rw [hl] at h0;cases h0;exact .inr ⟨rfl,rfl,rfl,rfl⟩
 ·have hp:=Pw.setRange (R:=C0 P w (look st.objs) pl (Free B W.o (look st.objs) F w)) ⟨h8.1,h8.2⟩ hv2 off
  refine ⟨g',setRange us off vs,h5,h6,?_,hp.1,fun k x u hx hu=>C0.goes gg (hp.2 k x u hx hu)⟩
  have:=setRow_heap w g' us.toArray (setRange us off vs).toArray bt (0,0) h7
  simpa [Ab.setRange] using this
def ZhE (y:Ty) (f:Nat):Option (Nat×Nat):=match y.k with | .struct fs=>(match fs[f]? with|some (o,n)=>if n=0 then none else some (o,n)|none=>none)|_=>none
theorem fld_t {s:TypeId} {y:Ty} {f fo n:Nat} (hy:Zac P s=some y) (hf:ZhE y f=some (fo,n)):∃ gs fd,P.underlying s=some (.struct gs)∧gs[f]?=some fd∧fd.offset=fo∧P.cellsOf fd.type=n∧n ≠ 0:=by
 unfold ZhE at hf
 split at hf
 ·rename_i fs hk
  obtain ⟨gs,h1,h2⟩:=Znc hy hk
  split at hf
  ·rename_i o n' ho
   split at hf
   ·cases hf
   ·rename_i hn
    cases hf
    subst h2
    rw [List.getElem?_map,Option.map_eq_some_iff] at ho
    obtain ⟨fd,h3,h4⟩:=ho
    simp only [Prod.mk.injEq] at h4
    exact ⟨gs,fd,h1,by simpa using h3,h4.1,h4.2,hn⟩
  ·cases hf
 ·cases hf
theorem ZcN {s:TypeId} {x:Operand} {f fo n:Nat} {y:Ty} {a:Act} {w:World} {ad:Addr} (ho:o.op=.fieldAddr s x f) (hy:Zac P s=some y) (hf:ZhE y f=some (fo,n)) (hx:a.eval x=.pointer (some ad)) :
  (execOp a.eval o).run P w=.ok (.value (.pointer (some (ad.add fo)))) w:=by
 obtain ⟨gs,fd,h1,h2,h3,h4,h5⟩:=fld_t hy hf
 have hsz:(sizeOf fd.type).run P w=.ok n w:=by
  subst h4
  unfold Program.cellsOf at h5 ⊢
  unfold sizeOf typeInfo
  cases hi:P.info? fd.type with
  | none=>rw [hi] at h5;exact absurd rfl h5
  | some i=>simp [hi]
 unfold execOp
 rw [ho]
 refine Zap ?_
 rw [hx]
 simp [Instr.fieldAt,run_underlying h1,h2,Instr.sureAddr,fieldPlace,hsz,h5,h3]
theorem OpS.field_ptr {s:TypeId} {x:Operand} {f fo n i ep k off:Nat} {y:Ty} (ho:o.op=.fieldAddr s x f) (hx:st.ev x=.ptr i ep k off) (hy:Zac P s=some y) (hf:ZhE y f=some (fo,n))
  {e:Nat} {ob:Ob} (hl:look st.objs i=some (e,ob)) (he:e=ep) (hK:KE (.ptr i ep k (off + fo)) []):OpS P B W o st KE :=
 OpS.pure_ hK fun a w pl F hs=>by
  have h1:=hs.ev x
  rw [hx] at h1
  obtain ⟨_,ep',ob',h2,h3,h4⟩:C0 P w (look st.objs) pl (Free B W.o (look st.objs) F w) (.ptr i ep k off) (a.eval x):=h1
  rw [hl] at h2
  cases h2
  obtain ⟨g,bb,hg,hu⟩:=h4 he.symm
  refine ⟨_,ZcN ho hy hf hu,rfl,_,_,hl,by omega,fun _=>⟨g,bb,hg,?_⟩⟩
  rw [ZaS]
  simp [Nat.add_assoc]
theorem OpS.field_rptr {s:TypeId} {x:Operand} {f fo n off:Nat} {cs:List T} {y:Ty} (ho:o.op=.fieldAddr s x f) (hx:st.ev x=.rptr cs off) (hy:Zac P s=some y) (hf:ZhE y f=some (fo,n)) (hK:KE (.rptr cs (off + fo)) []):OpS P B W o st KE :=
 OpS.pure_ hK fun a w pl F hs=>by
  have h1:=hs.ev x
  rw [hx] at h1
  obtain ⟨ad,h2,h3⟩:C0 P w (look st.objs) pl (Free B W.o (look st.objs) F w) (.rptr cs off) (a.eval x):=h1
  refine ⟨_,ZcN ho hy hf h2,_,rfl,fun j z hz=>?_⟩
  obtain ⟨h4,u,h5,h6⟩:=h3 (fo + j) z (by rw [← Nat.add_assoc];exact hz)
  exact ⟨by rw [Za0];exact h4,u,by rw [Zc7];exact h5,h6⟩
end
theorem Zb0 {α:Type} {s:Nat}:∀ {els:List (List α)} (_:∀ x ∈ els,x.length=s) {i j:Nat} (_:i < els.length) (_:j < s),els.flatten[i * s + j]?=(els.getD i [])[j]?
 | [],_,_,_,hi,_=>by simp at hi
 | x :: els,hu,0,j,_,hj=>by
  have hx:x.length=s:=hu x (by simp)
  simp only [List.flatten_cons,Nat.zero_mul,Nat.zero_add,List.getD_cons_zero]
  rw [List.getElem?_append_left (by omega)]
 | x :: els,hu,i + 1,j,hi,hj=>by
  have hx:x.length=s:=hu x (by simp)
  have ih:=Zb0 (els:=els) (fun y hy=>hu y (by simp [hy])) (i:=i) (j:=j) (by simpa using hi) hj
  simp only [List.flatten_cons,List.getD_cons_succ]
  rw [Nat.add_mul,Nat.one_mul,List.getElem?_append_right (by omega),hx,← ih]
  congr 1
  omega
theorem ZaE {α:Type} {s:Nat}:∀ {els:List (List α)} (_:∀ x ∈ els,x.length=s),els.flatten.length=els.length * s
 | [],_=>by simp
 | x :: els,hu=>by
  have hx:x.length=s:=hu x (by simp)
  rw [List.flatten_cons,List.length_append,hx,ZaE (els:=els) (fun y hy=>hu y (by simp [hy])),List.length_cons,Nat.add_mul]
  omega
theorem ZbT {α:Type} {els:List (List α)} {i:Nat} (hi:i < els.length):els.getD i [] ∈ els:=by
 rw [List.getD_eq_getElem?_getD,List.getElem?_eq_getElem hi]
 exact List.getElem_mem hi
section
variable {P:Program} {w:World} {CC:V→Value→Prop} {Fr:Nat→Prop} {v:Value} {F:Nat→Prop} {fl d:Bool} {e:TypeId} {els:List (List T)}
structure RowP (P:Program) (w:World) (Fr:Nat→Prop) (v:Value) (F:Nat→Prop) (fl d:Bool) (e:TypeId) (els:List (List T)) (us:List Value):Prop where
 own:ZbZ w e (P.cellsOf e) v els.length us
 uni:∀ x ∈ els,x.length=P.cellsOf e
 flt:fl=true→∀ x ∈ els.flatten,x.flat=true
 len:els.flatten.length=us.length
 top:∀ b,v.ownBlock=some b→F b
 rd:∀ (k:Nat) (x:T) (u:Value),els.flatten[k]?=some x→us[k]?=some u→Rd P w (fun b=>F b∨Fr b) x u
 shr:d=false→∀ (k:Nat) (x:T) (u:Value),els.flatten[k]?=some x→us[k]?=some u→Rd P w Fr x u
theorem ZbX (h:ObR P w CC (Rd P w Fr) v F (.row fl d e els)):∃ us,RowP P w Fr v F fl d e els us:=by
 rcases h with ⟨hd,h⟩|⟨hd,us,h1,h2,h3,h4,h5,h6⟩
 ·cases h with
  | flat hf=>cases hf
  | lst us fs h1 h2 h3 h4 h5 h6 h7 h8 =>
   exact ⟨us,h1,h2,h3,h4,fun b hb=>(h8 b).2 (.inl hb),fun k x u hx hu=>(h5 k x u hx hu).rd fun b hb=>.inl ((h8 b).2 (.inr ⟨k,hb⟩)),fun hd'=>by rw [hd] at hd';cases hd'⟩
 ·exact ⟨us,h1,h2,h3,h4,fun b hb=>(h6 b).2 hb,fun k x u hx hu=>(h5 k x u hx hu).mono (fun b hb=>.inr hb) fun _ _=>rfl,fun _=>h5⟩
theorem RowP.slice {us:List Value} (h:RowP P w Fr v F fl d e els us):∃ A c,v=.slice A els.length c∧els.length≤c∧c≤maxLen∧(us ≠ []→∃ g off,A=some ⟨g,off,none⟩∧v.ownBlock=some g∧blk v=some (g,off)∧∀ k u,us[k]?=some u→w.cell? ⟨g,off + k,none⟩=some u):=Zbm h.own
theorem RowP.cell {us:List Value} (h:RowP P w Fr v F fl d e els us) {k j:Nat} {x:T} (hk:k < els.length) (hj:(els.getD k [])[j]?=some x):∃ g off c u,v=.slice (some ⟨g,off,none⟩) els.length c∧v.ownBlock=some g∧w.cell? ⟨g,off + (k * P.cellsOf e + j),none⟩=some u∧us[k * P.cellsOf e + j]?=some u∧els.flatten[k * P.cellsOf e + j]?=some x:=by
 have hjl:j < P.cellsOf e:=by
  have h1:=(List.getElem?_eq_some_iff.1 hj).1
  rw [h.uni _ (ZbT hk)] at h1
  exact h1
 have hx:els.flatten[k * P.cellsOf e + j]?=some x:=(Zb0 h.uni hk hjl).trans hj
 have hlt:k * P.cellsOf e + j < us.length:=by rw [← h.len];exact (List.getElem?_eq_some_iff.1 hx).1
 obtain ⟨A,c,rfl,h1,h2,h3⟩:=h.slice
 obtain ⟨g,off,rfl,h4,h5,h6⟩:=h3 (fun e=>by rw [e] at hlt;simp at hlt)
 exact ⟨g,off,c,_,rfl,h4,h6 _ _ (List.getElem?_eq_getElem hlt),List.getElem?_eq_getElem hlt,hx⟩
end
section
variable {P:Program} {B:Nat→Prop} {W:En} {o:Oper} {st:St} {KE:V→List (Nat×Nat×Ob)→Prop}
section
variable {a:Act} {w:World} {pl:Nat→Value} {F:Nat→Nat→Prop}
theorem SimW.hnd_at (h:SimW P B W st a w pl F) {x:Operand} {i ep:Nat} {fl d:Bool} {e:TypeId} {els:List (List T)} (hx:st.ev x=.hnd i ep) (hl:look st.objs i=some (ep,.row fl d e els)) :
  a.eval x=pl i∧∃ us,RowP P w (Free B W.o (look st.objs) F w) (pl i) (F i) fl d e els us:=by
 have h1:=h.ev x
 rw [hx] at h1
 obtain ⟨_,ep',ob,h2,h3,h4⟩:C0 P w (look st.objs) pl (Free B W.o (look st.objs) F w) (.hnd i ep) (a.eval x):=h1
 rw [hl] at h2
 cases h2
 exact ⟨(h4 rfl).2,ZbX (h.objs i _ _ hl)⟩
theorem SimW.t_at (h:SimW P B W st a w pl F) {x:Operand} {t:T} (hx:st.ev x=.t t):Rd P w (Free B W.o (look st.objs) F w) t (a.eval x):=by
 have h1:=h.ev x
 rw [hx] at h1
 exact h1
theorem SimW.int_at (h:SimW P B W st a w pl F) {x:Operand} {k:IntKind} {n:Int} (hx:st.ev x=.t (.int k n)):a.eval x=.int k n∧(Lit.int k n).wf=true:=by
 have h1:=h.t_at hx
 cases h1':a.eval x<;>rw [h1'] at h1<;>cases h1
 exact ⟨rfl,by assumption⟩
theorem SimW.bool_at (h:SimW P B W st a w pl F) {x:Operand} {b:Bool} (hx:st.ev x=.t (.bool b)):a.eval x=.bool b:=by
 have h1:=h.t_at hx
 cases h1':a.eval x<;>rw [h1'] at h1<;>cases h1
 rfl
theorem SimW.str_at (h:SimW P B W st a w pl F) {x:Operand} {s:List UInt8} (hx:st.ev x=.t (.str s)):a.eval x=.string (bs s)∧s.length≤maxLen:=by
 have h1:=h.t_at hx
 generalize a.eval x=u at *
 cases h1
 exact ⟨rfl,by assumption⟩
theorem SimW.nil_at (h:SimW P B W st a w pl F) {x:Operand} (hx:st.ev x=.t .nil):a.eval x=.slice none 0 0:=by
 have h1:=h.t_at hx
 generalize a.eval x=u at *
 cases h1
 rfl
theorem SimW.lst_at (h:SimW P B W st a w pl F) {x:Operand} {fl:Bool} {e:TypeId} {els:List (List T)} (hx:st.ev x=.t (.lst fl e els)):∃ A c us,a.eval x=.slice A els.length c∧els.length≤c∧c≤maxLen∧(∀ x ∈ els,x.length=P.cellsOf e)∧(fl=true→∀ x ∈ els.flatten,x.flat=true)∧els.flatten.length=us.length ∧
  Mem w (Free B W.o (look st.objs) F w) A us∧∀ (k:Nat) (x:T) (u:Value),els.flatten[k]?=some x→us[k]?=some u→Rd P w (Free B W.o (look st.objs) F w) x u:=by
 have h1:=h.t_at hx
 generalize a.eval x=u at *
 cases h1 with
 | lst us h1 h2 h3 h4 h5 h6 h7=>exact ⟨_,_,us,rfl,h1,h2,h3,h4,h5,h6,h7⟩
end
theorem ZbR {t:TypeId} {x ix:Operand} {a:Act} {w:World} {ad:Addr} {n:Int} {k:IntKind} {len c e es eb:Nat} {y:Ty} (ho:o.op=.indexAddr t x ix) (hy:Zac P t=some y) (hk:y.k=.slice e es eb) (hes:es ≠ 0) (hx:a.eval x=.slice (some ad) len c) (hi:a.eval ix=.int k n) (hn:0≤n∧n < len) :
  (execOp a.eval o).run P w=.ok (.value (.pointer (some (ad.add (n.toNat * es))))) w:=by
 obtain ⟨h1,h2,h3⟩:=ZaM hy hk
 have hsz:(sizeOf e).run P w=.ok es w:=by
  subst h2
  unfold Program.cellsOf at hes ⊢
  unfold sizeOf typeInfo
  cases hi:P.info? e with
  | none=>rw [hi] at hes;exact absurd rfl hes
  | some i=>simp [hi]
 unfold execOp
 rw [ho]
 refine Zap ?_
 rw [hx,hi]
 simp [Instr.indexAt,asIntOf,run_underlying h1,hn.1,hn.2,hsz]
theorem OpS.index_lst {t:TypeId} {x ix:Operand} {fl:Bool} {els:List (List T)} {n:Int} {k:IntKind} {e es eb e':Nat} {y:Ty} (ho:o.op=.indexAddr t x ix) (hx:st.ev x=.t (.lst fl e' els)) (hi:st.ev ix=.t (.int k n)) (hy:Zac P t=some y) (hk:y.k=.slice e es eb) (hes:es ≠ 0) (he:e'=e)
  (hn:0≤n∧n < els.length) (hK:KE (.rptr (els.getD n.toNat []) 0) []):OpS P B W o st KE :=
 OpS.pure_ hK fun a w pl F hs=>by
  subst he
  obtain ⟨A,c,us,h1,h2,h3,h4,h5,h6,h7,h8⟩:=hs.lst_at hx
  have hes':P.cellsOf e'=es:=(ZaM hy hk).2.1
  have hnn:n.toNat < els.length:=by omega
  have hne:us ≠ []:=fun e=>by
   have:=ZaE h4
   rw [h6,e,hes',List.length_nil] at this
   have:=Nat.mul_pos (show 0 < els.length by omega) (Nat.pos_of_ne_zero hes)
   omega
  obtain ⟨ad,rfl,hb,hc⟩:=h7 hne
  refine ⟨_,ZbR ho hy hk hes h1 (hs.int_at hi).1 hn,_,rfl,fun j z hz=>?_⟩
  have hjl:j < es:=by
   have h9:=(List.getElem?_eq_some_iff.1 hz).1
   rw [Nat.zero_add,h4 _ (ZbT hnn),hes'] at h9
   exact h9
  have hx':=(Zb0 (s:=es) (fun x hx=>(h4 x hx).trans hes') hnn hjl).trans (by simpa using hz)
  have hlt:n.toNat * es + j < us.length:=by rw [← h6];exact (List.getElem?_eq_some_iff.1 hx').1
  exact ⟨by rw [Za0];exact hb,_,by rw [Zc7];exact hc _ _ (List.getElem?_eq_getElem hlt),h8 _ _ _ hx' (List.getElem?_eq_getElem hlt)⟩
theorem OpS.index_hnd {t:TypeId} {x ix:Operand} {i ep:Nat} {fl d:Bool} {els:List (List T)} {n:Int} {k:IntKind} {e es eb e':Nat} {y:Ty} (ho:o.op=.indexAddr t x ix) (hx:st.ev x=.hnd i ep) (hl:look st.objs i=some (ep,.row fl d e' els)) (hi:st.ev ix=.t (.int k n)) (hy:Zac P t=some y) (hk:y.k=.slice e es eb) (hes:es ≠ 0) (he:e'=e)
  (hn:0≤n∧n < els.length) (hK:KE (.ptr i ep n.toNat 0) []):OpS P B W o st KE :=
 OpS.pure_ hK fun a w pl F hs=>by
  subst he
  obtain ⟨h1,us,hp⟩:=hs.hnd_at hx hl
  have hes':P.cellsOf e'=es:=(ZaM hy hk).2.1
  have hnn:n.toNat < els.length:=by omega
  have h0:0 < (els.getD n.toNat []).length:=by rw [hp.uni _ (ZbT hnn)];omega
  obtain ⟨g,bb,c,u,h2,h3,_⟩:=hp.cell (j:=0) hnn (List.getElem?_eq_getElem h0)
  refine ⟨_,ZbR ho hy hk hes (h1.trans h2) (hs.int_at hi).1 hn,rfl,_,_,hl,Nat.le_refl _,fun _=>⟨g,bb,by rw [h2];rfl,?_⟩⟩
  rw [ZaS]
  simp [esz,hes']
theorem OpS.load_row {ty:TypeId} {x:Operand} {i ep n off:Nat} {fl d:Bool} {e:TypeId} {els:List (List T)} {y:Ty} {v:V} (ho:o.op=.load ty x) (hx:st.ev x=.ptr i ep n off) (hl:look st.objs i=some (ep,.row fl d e els)) (hfd:fl=true∨d=false) (hn:n < els.length) (hy:Zac P ty=some y)
  (hv:Zdp y.k.agg y.size ((els.getD n []).map .t) off=some v) (hK:KE v []):OpS P B W o st KE :=
 OpS.pure_ hK fun a w pl F hs=>by
  have h1:=hs.ev x
  rw [hx] at h1
  obtain ⟨_,ep',ob,h2,h3,h4⟩:C0 P w (look st.objs) pl (Free B W.o (look st.objs) F w) (.ptr i ep n off) (a.eval x):=h1
  rw [hl] at h2
  cases h2
  obtain ⟨g,bb,hg,hu⟩:=h4 rfl
  obtain ⟨us,hp⟩:=ZbX (hs.objs i _ _ hl)
  obtain ⟨u,h9,h10⟩:=Zcw hy hv ⟨g,bb + (n * esz P (.row fl d e els) + off),none⟩ (lk:=look st.objs) (pl:=pl) (Fr:=Free B W.o (look st.objs) F w) (w:=w) fun j z hz=>by
   rw [List.getElem?_map,Option.map_eq_some_iff] at hz
   obtain ⟨q,hq,rfl⟩:=hz
   obtain ⟨g',bb',c,u,h5,h6,h7,h8,h9⟩:=hp.cell hn hq
   rw [h5] at hg
   simp only [blk,Option.some.injEq,Prod.mk.injEq] at hg
   obtain ⟨rfl,rfl⟩:=hg
   refine ⟨u,by rw [ZaS];simpa [esz,Nat.add_assoc] using h7,?_⟩
   rcases hfd with hf|hd
   ·exact (hp.rd _ _ _ h9 h8).flat (hp.flt hf _ (List.mem_of_getElem? h9))
   ·exact hp.shr hd _ _ _ h9 h8
  exact ⟨u,Zdh ho hu h9,h10⟩
theorem OpS.index_at {t:TypeId} {x ix:Operand} {fl:Bool} {els:List (List T)} {n:Int} {k:IntKind} {e es eb e' m:Nat} {y:Ty} {cs:List T} (ho:o.op=.indexAddr t x ix) (hx:st.ev x=.t (.lst fl e' els)) (hi:st.ev ix=.t (.int k n)) (hy:Zac P t=some y) (hk:y.k=.slice e es eb) (hes:es ≠ 0) (he:e'=e)
  (hm:n=(m:Int)) (hc:els[m]?=some cs) (hK:KE (.rptr cs 0) []):OpS P B W o st KE:=by
 have hlt:m < els.length:=(List.getElem?_eq_some_iff.1 hc).1
 refine OpS.index_lst ho hx hi hy hk hes he (by omega) ?_
 have:els.getD n.toNat []=cs:=by rw [hm,Int.toNat_natCast,List.getD_eq_getElem?_getD,hc];rfl
 rw [this]
 exact hK
theorem OpS.index_row {t:TypeId} {x ix:Operand} {i ep:Nat} {fl d:Bool} {els:List (List T)} {n:Int} {k:IntKind} {e es eb e' m:Nat} {y:Ty} (ho:o.op=.indexAddr t x ix) (hx:st.ev x=.hnd i ep) (hl:look st.objs i=some (ep,.row fl d e' els)) (hi:st.ev ix=.t (.int k n)) (hy:Zac P t=some y) (hk:y.k=.slice e es eb) (hes:es ≠ 0) (he:e'=e)
  (hm:n=(m:Int)) (hlt:m < els.length) (hK:KE (.ptr i ep m 0) []):OpS P B W o st KE:=by
 refine OpS.index_hnd ho hx hl hi hy hk hes he (by omega) ?_
 rw [hm,Int.toNat_natCast]
 exact hK
theorem OpS.load_elem {ty:TypeId} {x:Operand} {i ep n off:Nat} {fl d:Bool} {e:TypeId} {els:List (List T)} {y:Ty} {v:V} {cs:List T} (ho:o.op=.load ty x) (hx:st.ev x=.ptr i ep n off) (hl:look st.objs i=some (ep,.row fl d e els)) (hfd:fl=true∨d=false) (hc:els[n]?=some cs) (hy:Zac P ty=some y)
  (hv:Zdp y.k.agg y.size (cs.map .t) off=some v) (hK:KE v []):OpS P B W o st KE:=by
 have hlt:n < els.length:=(List.getElem?_eq_some_iff.1 hc).1
 have:els.getD n []=cs:=by rw [List.getD_eq_getElem?_getD,hc];rfl
 exact OpS.load_row ho hx hl hfd hlt hy (by rw [this];exact hv) hK
theorem Zbv {α β:Type} [Inhabited α] {f:α→β} {xs:List α} {m:Nat} (h:m < xs.length):(xs.map f)[m]?=some (f (xs.getD m default)):=by simp [h]
theorem Zdz {x:Operand} {t:TypeId} {c:Call} {a:Act} {w:World} {n cc:Nat} {A:Option Addr} {e es eb:Nat} {y:Ty} (ho:o.op=.call c) (h1:c.callee=.builtin .len) (h2:c.args=#[x]) (h3:c.argTypes=#[t]) (hy:Zac P t=some y) (hk:y.k=.slice e es eb) (hx:a.eval x=.slice A n cc) :
  (execOp a.eval o).run P w=.ok (.value (.int .i64 n)) w:=by
 obtain ⟨g1,_,_⟩:=ZaM hy hk
 unfold execOp
 rw [ho]
 simp [resolve,h1,h2,h3,invoke,builtin,Builtin.len_,run_underlying g1,hx,goInt]
theorem ZeU {n:Nat} (h:n≤maxLen):(Lit.int .i64 n).wf=true:=WalkArith.wf_i64 (by simp only [maxLen] at h;omega)
theorem OpS.len_lst {x:Operand} {t:TypeId} {c:Call} {fl:Bool} {e':Nat} {els:List (List T)} {e es eb:Nat} {y:Ty} (ho:o.op=.call c) (h1:c.callee=.builtin .len) (h2:c.args=#[x]) (h3:c.argTypes=#[t]) (hy:Zac P t=some y) (hk:y.k=.slice e es eb) (hx:st.ev x=.t (.lst fl e' els)) {m:Nat} (hm:els.length=m) (hK:KE (.t (.int .i64 m)) []):OpS P B W o st KE :=
 OpS.pure_ hK fun a w pl F hs=>by
  subst hm
  obtain ⟨A,c,us,g1,g2,g3,_⟩:=hs.lst_at hx
  exact ⟨_,Zdz ho h1 h2 h3 hy hk g1,Rd.int (ZeU (Nat.le_trans g2 g3))⟩
theorem OpS.len_hnd {x:Operand} {t:TypeId} {c:Call} {i ep:Nat} {fl d:Bool} {e':Nat} {els:List (List T)} {e es eb:Nat} {y:Ty} (ho:o.op=.call c) (h1:c.callee=.builtin .len) (h2:c.args=#[x]) (h3:c.argTypes=#[t]) (hy:Zac P t=some y) (hk:y.k=.slice e es eb) (hx:st.ev x=.hnd i ep) (hl:look st.objs i=some (ep,.row fl d e' els)) {m:Nat} (hm:els.length=m) (hK:KE (.t (.int .i64 m)) []):OpS P B W o st KE :=
 OpS.pure_ hK fun a w pl F hs=>by
  subst hm
  obtain ⟨g1,us,hp⟩:=hs.hnd_at hx hl
  obtain ⟨A,c,g2,g3,g4,_⟩:=hp.slice
  exact ⟨_,Zdz ho h1 h2 h3 hy hk (g1.trans g2),Rd.int (ZeU (Nat.le_trans g3 g4))⟩
theorem Zb5 (s:List UInt8):(bs s).size=s.length:=by simp [bs,ByteArray.size]
theorem q6aa0 {x:Operand} {t:TypeId} {c:Call} {s:List UInt8} {y:Ty} (hK:KE (.t (.int .i64 s.length)) []) (ho:o.op=.call c:=by exact rfl) (h1:c.callee=.builtin .len:=by exact rfl) (h2:c.args=#[x]:=by exact rfl) (h3:c.argTypes=#[t]:=by exact rfl) (hy:Zac P t=some y:=by exact Tryz.ti rfl) (hk:y.k=.str:=by exact rfl) (hx:st.ev x=.t (.str s):=by exact rfl):OpS P B W o st KE:=
 OpS.pure_ hK fun a w pl F hs=>by
  obtain ⟨d,i,g1,_,g2,_⟩:=Zaw hy
  have g3:d=.string:=by rw [hk] at g2;cases d<;>simp [kdOf] at g2 ⊢
  subst g3
  obtain ⟨g4,g5⟩:=hs.str_at hx
  refine ⟨.int .i64 s.length,?_,Rd.int (ZeU g5)⟩
  unfold execOp
  rw [ho]
  simp [resolve,h1,h2,h3,invoke,builtin,Builtin.len_,run_underlying g1,g4,goInt,Zb5]
theorem wf_u8 (c:UInt8):(Lit.int .u8 (c.toNat:Nat)).wf=true:=by
 have:=c.toNat_lt
 simp only [Lit.wf,IntKind.min,IntKind.max,IntKind.signed,IntKind.bits]
 simp
 omega
theorem OpS.index_str {t:TypeId} {x ix:Operand} {s:List UInt8} {n:Int} {k:IntKind} {y:Ty} (ho:o.op=.index t x ix) (hx:st.ev x=.t (.str s)) (hi:st.ev ix=.t (.int k n)) (hy:Zac P t=some y) (hk:y.k=.str) (hn:0≤n∧n < s.length) (hK:KE (.t (.int .u8 ((s.getD n.toNat 0).toNat:Nat))) []):OpS P B W o st KE :=
 OpS.pure_ hK fun a w pl F hs=>by
  obtain ⟨d,i,g1,_,g2,_⟩:=Zaw hy
  have g3:d=.string:=by rw [hk] at g2;cases d<;>simp [kdOf] at g2 ⊢
  subst g3
  obtain ⟨g4,g5⟩:=hs.str_at hx
  obtain ⟨g6,_⟩:=hs.int_at hi
  have hlt:n.toNat < s.length:=by omega
  refine ⟨.int .u8 ((s.getD n.toNat 0).toNat:Nat),?_,Rd.int ?_⟩
  ·unfold execOp
   rw [ho]
   refine Zap ?_
   rw [g4,g6]
   have hq:(bs s)[n.toNat]?=some (s.getD n.toNat 0):=by
    rw [getElem?_pos (bs s) n.toNat (by rw [Zb5];exact hlt)]
    simp [bs,ByteArray.getElem_eq_getElem_data,List.getD_eq_getElem?_getD,hlt]
   simp [Instr.index,asIntOf,run_underlying g1,hn.1,hq]
  ·exact wf_u8 _
theorem OpS.extract {x:Operand} {i:Nat} {vs:List V} {v:V} (ho:o.op=.extract x i) (hx:st.ev x=.tup vs) (hv:vs[i]?=some v) (hK:KE v []):OpS P B W o st KE :=
 OpS.pure_ hK fun a w pl F hs=>by
  have h1:=hs.ev x
  rw [hx] at h1
  obtain ⟨us,h2,h3,h4⟩:=h1
  have hlt:i < us.length:=by rw [h3];exact (List.getElem?_eq_some_iff.1 hv).1
  refine ⟨us[i],?_,(h4 i v _ hv (List.getElem?_eq_getElem hlt)).c2⟩
  unfold execOp
  rw [ho]
  simp [Instr.extract,h2,hlt]
theorem OpS.not_ {x:Operand} {t:TypeId} {b:Bool} (ho:o.op=.unOp .not t x) (hx:st.ev x=.t (.bool b)) (hK:KE (.t (.bool (!b))) []):OpS P B W o st KE :=
 OpS.pure_ hK fun a w pl F hs=>⟨.bool (!b),by unfold execOp;rw [ho];simp [hs.bool_at hx,Op.unary],Rd.bool⟩
theorem OpS.neg {x:Operand} {t:TypeId} {k:IntKind} {n:Int} (ho:o.op=.unOp .neg t x) (hx:st.ev x=.t (.int k n)) (hK:KE (.t (.int k (k.wrap (0 - n)))) []):OpS P B W o st KE :=
 OpS.pure_ hK fun a w pl F hs=>⟨_,by unfold execOp;rw [ho];simp only [(hs.int_at hx).1,Op.unary,Op.intArith];rfl,Rd.int (wf_wrap _ _)⟩
def cmpV (op:BinOp) (a b:Int):Option Bool :=
 match op with
 | .eql=>some (decide (a=b)) | .neq=>some (!decide (a=b)) | .lss=>some (decide (a < b)) | .leq=>some (decide (a≤b)) | .gtr=>some (decide (b < a)) | .geq=>some (decide (b≤a))|_=>none
theorem OpS.cmp {op:BinOp} {t t':TypeId} {x y:Operand} {k:IntKind} {m n:Int} {b:Bool} (ho:o.op=.binOp op t x y t') (hx:st.ev x=.t (.int k m)) (hy:st.ev y=.t (.int k n)) (hb:cmpV op m n=some b) (hK:KE (.t (.bool b)) []):OpS P B W o st KE :=
 OpS.pure_ hK fun a w pl F hs=>by
  refine ⟨.bool b,?_,Rd.bool⟩
  unfold execOp
  rw [ho]
  refine Zap ?_
  rw [(hs.int_at hx).1,(hs.int_at hy).1]
  cases op<;>simp only [cmpV,Option.some.injEq,reduceCtorEq] at hb<;>subst hb<;>simp [eqGuard,binOp,Op.intCmp]<;>rfl
def arV (op:BinOp) (k:IntKind) (a b:Int):Option Int :=
 match op with
 | .add=>some (k.wrap (a + b)) | .sub=>some (k.wrap (a - b)) | .mul=>some (k.wrap (a * b))
 | .and=>some (k.wrap (BitVec.ofInt k.bits a &&& BitVec.ofInt k.bits b).toNat) | .or=>some (k.wrap (BitVec.ofInt k.bits a ||| BitVec.ofInt k.bits b).toNat) | .xor=>some (k.wrap (BitVec.ofInt k.bits a ^^^ BitVec.ofInt k.bits b).toNat)
 | .andNot=>some (k.wrap (BitVec.ofInt k.bits a &&& ~~~BitVec.ofInt k.bits b).toNat)
 | _=>none
theorem OpS.arith {op:BinOp} {t t':TypeId} {x y:Operand} {k:IntKind} {m n r:Int} (ho:o.op=.binOp op t x y t') (hx:st.ev x=.t (.int k m)) (hy:st.ev y=.t (.int k n)) (hb:arV op k m n=some r) (hK:KE (.t (.int k r)) []):OpS P B W o st KE :=
 OpS.pure_ hK fun a w pl F hs=>by
  refine ⟨.int k r,?_,?_⟩
  ·unfold execOp
   rw [ho]
   refine Zap ?_
   rw [(hs.int_at hx).1,(hs.int_at hy).1]
   cases op<;>simp only [arV,Option.some.injEq,reduceCtorEq] at hb<;>subst hb<;>simp [eqGuard,binOp,Op.intArith,Op.intBits]
  ·refine Rd.int ?_
   cases op<;>simp only [arV,Option.some.injEq,reduceCtorEq] at hb<;>subst hb<;>exact wf_wrap _ _
def arI (op:BinOp) (a b:Int):Option Int:=match op with | .add=>some (a + b) | .sub=>some (a - b) | .mul=>some (a * b)|_=>none
theorem wrap_i64 {n:Int} (h:-9223372036854775808≤n∧n≤9223372036854775807):IntKind.i64.wrap n=n:=by
 simp only [IntKind.wrap,IntKind.bits,IntKind.signed]
 simp
 omega
theorem OpS.arith_i {op:BinOp} {t t':TypeId} {x y:Operand} {m n r:Int} (ho:o.op=.binOp op t x y t') (hx:st.ev x=.t (.int .i64 m)) (hy:st.ev y=.t (.int .i64 n)) (hb:arI op m n=some r) (hr:-9223372036854775808≤r∧r≤9223372036854775807) (hK:KE (.t (.int .i64 r)) []):OpS P B W o st KE:=by
 refine OpS.arith (r:=r) ho hx hy ?_ hK
 cases op<;>simp only [arI,Option.some.injEq,reduceCtorEq] at hb<;>subst hb<;>simp only [arV]<;>rw [wrap_i64 hr]
theorem qfade {x:Operand} {t:TypeId} {p:Prop} [Decidable p] (hK:KE (.t (.bool (decide (¬ p)))) []) (ho:o.op=.unOp .not t x:=by exact rfl) (hx:st.ev x=.t (.bool (decide p)):=by exact rfl):OpS P B W o st KE:=
  OpS.not_ ho hx (by have : decide (¬ p) = !decide p := by by_cases h : p <;> simp [h]
                     rw [← this];exact hK)
theorem OpS.quo {t t':TypeId} {x y:Operand} {k:IntKind} {m n:Int} (ho:o.op=.binOp .quo t x y t') (hx:st.ev x=.t (.int k m)) (hy:st.ev y=.t (.int k n)) (hn:n ≠ 0) (hK:KE (.t (.int k (k.wrap (m.tdiv n)))) []):OpS P B W o st KE :=
 OpS.pure_ hK fun a w pl F hs=>by
  refine ⟨_,?_,Rd.int (wf_wrap _ _)⟩
  unfold execOp
  rw [ho]
  refine Zap ?_
  rw [(hs.int_at hx).1,(hs.int_at hy).1]
  simp [eqGuard,binOp,Op.intDiv,hn]
theorem OpS.quo_i {t t':TypeId} {x y:Operand} {m n:Int} (ho:o.op=.binOp .quo t x y t') (hx:st.ev x=.t (.int .i64 m)) (hy:st.ev y=.t (.int .i64 n)) (hn:0 < n) (hm:0≤m) (hK:KE (.t (.int .i64 (m / n))) []):OpS P B W o st KE:=by
 refine OpS.pure_ hK fun a w pl F hs=>?_
 have h1:m.tdiv n=m / n:=Int.tdiv_eq_ediv_of_nonneg hm
 obtain ⟨h2,h3⟩:=hs.int_at hx
 have hb:=bounds_i64 h3
 have h4:m / n≤m:=Int.ediv_le_self _ hm
 have h5:0≤m / n:=Int.ediv_nonneg hm (by omega)
 refine ⟨.int .i64 (m / n),?_,Rd.int (WalkArith.wf_i64 (by omega))⟩
 unfold execOp
 rw [ho]
 refine Zap ?_
 rw [h2,(hs.int_at hy).1]
 have hn0:n ≠ 0:=by omega
 simp [eqGuard,binOp,Op.intDiv,hn0,h1,wrap_i64 (show -9223372036854775808≤m / n∧m / n≤9223372036854775807 by omega)]
theorem Zpr {k:IntKind} {m n:Int} (hm:(Lit.int k m).wf=true):(Lit.int k (m.tmod n)).wf=true:=by
 simp only [Lit.wf,Bool.and_eq_true,decide_eq_true_eq] at hm ⊢
 have h1:k.min≤0∧0≤k.max:=by cases k<;>exact ⟨by decide,by decide⟩
 have h2:(m.tmod n).natAbs≤m.natAbs:=by rw [Int.natAbs_tmod];exact Nat.mod_le _ _
 rcases Int.le_total 0 m with h|h
 ·have:=Int.tmod_nonneg n h
  omega
 ·have h3:0≤(-m).tmod n:=Int.tmod_nonneg n (by omega)
  rw [Int.neg_tmod] at h3
  omega
theorem OpS.rem {t t':TypeId} {x y:Operand} {k:IntKind} {m n:Int} (ho:o.op=.binOp .rem t x y t') (hx:st.ev x=.t (.int k m)) (hy:st.ev y=.t (.int k n)) (hn:n ≠ 0) (hK:KE (.t (.int k (m.tmod n))) []):OpS P B W o st KE :=
 OpS.pure_ hK fun a w pl F hs=>by
  refine ⟨_,?_,Rd.int (Zpr (hs.int_at hx).2)⟩
  unfold execOp
  rw [ho]
  refine Zap ?_
  rw [(hs.int_at hx).1,(hs.int_at hy).1]
  simp [eqGuard,binOp,Op.intDiv,hn]
theorem OpS.cmp_bool {op:BinOp} {t t':TypeId} {x y:Operand} {m n b:Bool} {z:Ty} (ho:o.op=.binOp op t x y t') (hz:Zac P t=some z) (hk:z.k=.bool) (hx:st.ev x=.t (.bool m)) (hy:st.ev y=.t (.bool n)) (hb:(match op with | .eql=>some (m == n) | .neq=>some (!(m == n))|_=>none)=some b) (hK:KE (.t (.bool b)) []):OpS P B W o st KE :=
 OpS.pure_ hK fun a w pl F hs=>by
  obtain ⟨d,i,g1,_,g2,_⟩:=Zaw hz
  have g3:d=.bool:=by rw [hk] at g2;cases d<;>simp [kdOf] at g2 ⊢
  subst g3
  refine ⟨.bool b,?_,Rd.bool⟩
  unfold execOp
  rw [ho]
  refine Zap ?_
  rw [hs.bool_at hx,hs.bool_at hy]
  cases op<;>simp only [Option.some.injEq,reduceCtorEq] at hb<;>subst hb<;>simp [eqGuard,run_eql_bool w t m n g1,run_neq_bool w t m n g1]
theorem Zkf (s:List UInt8):(bs s).toList=s:=ByteArray.toList_mk s
def cmpS (op:BinOp) (a b:List UInt8):Option Bool :=
 match op with
 | .eql=>some (decide (a=b)) | .neq=>some (!decide (a=b)) | .lss=>some (Op.bytesLess a b) | .leq=>some (Op.bytesLess a b || decide (a=b)) | .gtr=>some (!(Op.bytesLess a b || decide (a=b))) | .geq=>some (!Op.bytesLess a b)|_=>none
theorem OpS.cmp_str {op:BinOp} {t t':TypeId} {x y:Operand} {m n:List UInt8} {b:Bool} (ho:o.op=.binOp op t x y t') (hx:st.ev x=.t (.str m)) (hy:st.ev y=.t (.str n)) (hb:cmpS op m n=some b) (hK:KE (.t (.bool b)) []):OpS P B W o st KE :=
 OpS.pure_ hK fun a w pl F hs=>by
  refine ⟨.bool b,?_,Rd.bool⟩
  unfold execOp
  rw [ho]
  refine Zap ?_
  rw [(hs.str_at hx).1,(hs.str_at hy).1]
  have hbe:∀ (p q:List UInt8),(p == q)=decide (p=q):=fun p q=>by by_cases h:p=q<;>simp [h]
  cases op<;>simp only [cmpS,Option.some.injEq,reduceCtorEq] at hb<;>subst hb<;>simp [eqGuard,binOp,Op.stringOp,Zkf,hbe]<;>rfl
theorem OpS.add_str {t t':TypeId} {x y:Operand} {m n:List UInt8} (ho:o.op=.binOp .add t x y t') (hx:st.ev x=.t (.str m)) (hy:st.ev y=.t (.str n)) (hl:m.length + n.length≤maxLen) (hK:KE (.t (.str (m++n))) []):OpS P B W o st KE :=
 OpS.pure_ hK fun a w pl F hs=>by
  refine ⟨.string (bs (m++n)),?_,Rd.str (by rw [List.length_append];exact hl)⟩
  unfold execOp
  rw [ho]
  refine Zap ?_
  rw [(hs.str_at hx).1,(hs.str_at hy).1]
  have h1:bs m++bs n=bs (m++n):=ByteArray.mk_append_mk m n
  have h2:¬ (((bs m).size + (bs n).size:Nat):Int) > IntKind.i64.max:=by
   rw [Zb5,Zb5]
   have:IntKind.i64.max=9223372036854775807:=by decide
   simp only [maxLen] at hl
   omega
  simp only [eqGuard,binOp,Op.stringOp,h1,if_neg h2]
  simp
end
theorem ZcF {α:Type} {s:Nat}:∀ {els:List (List α)} (_:∀ x ∈ els,x.length=s) (i n:Nat),((els.drop i).take n).flatten=(els.flatten.drop (i * s)).take (n * s)
 | [],_,i,n=>by simp
 | x :: els,hu,0,0=>by simp
 | x :: els,hu,0,n + 1=>by
  have hx:x.length=s:=hu x (by simp)
  have ih:=ZcF (els:=els) (fun y hy=>hu y (by simp [hy])) 0 n
  simp only [List.drop_zero,Nat.zero_mul] at ih ⊢
  have hs:(n + 1) * s=x.length + n * s:=by rw [hx,Nat.add_mul,Nat.one_mul];omega
  rw [List.take_succ_cons,List.flatten_cons,ih,List.flatten_cons,hs,List.take_append,List.take_of_length_le (l:=x) (by omega),Nat.add_sub_cancel_left]
 | x :: els,hu,i + 1,n=>by
  have hx:x.length=s:=hu x (by simp)
  have ih:=ZcF (els:=els) (fun y hy=>hu y (by simp [hy])) i n
  have hs:(i + 1) * s=x.length + i * s:=by rw [hx,Nat.add_mul,Nat.one_mul];omega
  rw [List.drop_succ_cons,ih,List.flatten_cons,hs,List.drop_append,List.drop_of_length_le (l:=x) (by omega),List.nil_append,Nat.add_sub_cancel_left]
def noLk:Nat→Option (Nat×Ob):=fun _=>none
def noPl:Nat→Value:=fun _=>undef
section
variable (P:Program) (w:World) (Fr:Nat→Prop)
def R0 (F:Nat→Prop):V→Value→Prop
 | .t x,u=>Rd P w Fr x u
 | .fr fl e els,u=>Ow P w (.lst fl e els) u F
 | .lit v,u=>u=v
 | _,_=>False
def R1 (F:Nat→Nat→Prop):V→Value→Prop
 | .agg cs,u=>∃ us:List Value,u=.agg us.toArray∧us.length=cs.length∧∀ (k:Nat) (v:V) (x:Value),cs[k]?=some v→us[k]?=some x→R0 P w Fr (F k) v x
 | v,u=>R0 P w Fr (F 0) v u
def R2 (F:Nat→Nat→Nat→Prop):V→Value→Prop
 | .tup vs,u=>∃ us:List Value,u=.tuple us.toArray∧us.length=vs.length∧∀ (k:Nat) (v:V) (x:Value),vs[k]?=some v→us[k]?=some x→R1 P w Fr (F k) v x
 | v,u=>R1 P w Fr (F 0) v u
end
def ResR (P:Program) (w w':World) (B:Nat→Prop) (r:V) (u:Value):Prop :=
 ∃ F:Nat→Nat→Nat→Prop,R2 P w' (fun b=>(B b∨w.heap.size≤b)∧b < w'.heap.size∧∀ j k,¬ F j k b) F r u∧(∀ j k b,F j k b→w.heap.size≤b∧b < w'.heap.size) ∧
  ∀ j k j' k' b,(j ≠ j'∨k ≠ k')→F j k b→¬ F j' k' b
def Enters (P:Program) (f:FuncId):Prop:=∃ fn,P.funcs[f]?=some fn∧fn.body.isNone=false∧(fn.name == "runtime.NumGoroutine")=false
def AC (P:Program) (f:FuncId) (aS:List V) (r:V):Prop:=Enters P f ∧
 ∀ (w:World) (B:Nat→Prop) (args:List Value),(∀ b,B b→b < w.heap.size)→Pw (C1 P w noLk noPl B) aS args→Calls P f args.toArray w fun e w'=>∃ u,e=.returned u∧Below w.heap.size w w'∧ResR P w w' B r u
def See0 (lk:Nat→Option (Nat×Ob)):V→V→Prop
 | .t x,.t y=>x=y∨(x=.nil∧∃ fl e,y=.lst fl e [])
 | .hnd o ep,.t y=>∃ fl d e els,lk o=some (ep,.row fl d e els)∧y=.lst fl e els
 | .view o ep i n,.t y=>∃ fl d e els,lk o=some (ep,.row fl d e els)∧i + n≤els.length∧y=.lst fl e ((els.drop i).take n)
 | .lit v,.lit v'=>v=v'
 | _,_=>False
def SeeL (lk:Nat→Option (Nat×Ob)):List V→List V→Prop
 | [],[]=>True
 | c :: cs,d :: ds=>See0 lk c d∧SeeL lk cs ds
 | _,_=>False
def See1 (lk:Nat→Option (Nat×Ob)):V→V→Prop
 | .agg cs,.agg ds=>SeeL lk cs ds
 | v,x=>See0 lk v x
def SeeA (lk:Nat→Option (Nat×Ob)):List V→List V→Prop
 | [],[]=>True
 | c :: cs,d :: ds=>See1 lk c d∧SeeA lk cs ds
 | _,_=>False
section
variable {P:Program} {B:Nat→Prop} {W:En} {st:St} {a:Act} {w:World} {pl:Nat→Value} {F:Nat→Nat→Prop}
def ZmY:V→Bool
 | .hnd ..=>false
 | .view ..=>false
 | _=>true
def ZjI:V→List Nat
 | .hnd o _=>[o]
 | .view o _ _ _=>[o]
 | _=>[]
def Zp7:V→List Nat
 | .agg cs=>cs.flatMap ZjI
 | v=>ZjI v
theorem Zmc {v:V} (h:ZmY v=true):ZjI v=[]:=by cases v<;>first|rfl|cases h
def ZdX:V→Bool
 | .agg cs=>cs.all ZmY
 | v=>ZmY v
theorem Zmd {v:V} (h:ZdX v=true):Zp7 v=[]:=by
 cases v with
 | agg cs =>
  have h':cs.all ZmY=true:=h
  show cs.flatMap ZjI=[]
  rw [List.flatMap_eq_nil_iff]
  exact fun x hx=>Zmc (List.all_eq_true.1 h' x hx)
 | _=>first|rfl|exact Bool.noConfusion (show false=true from h)
theorem SimW.see0 (h:SimW P B W st a w pl F) {Bx:Nat→Prop} (hB:∀ b,Free B W.o (look st.objs) F w b→Bx b) {v x:V} (hO:∀ o,o ∈ ZjI v→∀ y b,look st.objs o=some y→F o b→Bx b) {u:Value} (hv:C0 P w (look st.objs) pl (Free B W.o (look st.objs) F w) v u) (hs:See0 (look st.objs) v x):C0 P w noLk noPl Bx x u:=by
 cases v with
 | t y =>
  cases x with
  | t z =>
   rcases hs with rfl|⟨rfl,fl,e,rfl⟩
   ·exact Rd.mono hv hB fun _ _=>rfl
   ·have hv':Rd P w (Free B W.o (look st.objs) F w) .nil u:=hv
    cases hv'
    exact .lst (els:=[]) [] (Nat.le_refl _) (by simp [maxLen]) (by simp) (by simp) rfl (fun h=>absurd rfl h) (fun k x u h=>by simp at h)
  | _=>exact hs.elim
 | hnd o ep =>
  have hO':=hO o (by simp [ZjI])
  cases x with
  | t z =>
   obtain ⟨fl,d,e,els,hl,rfl⟩:=hs
   obtain ⟨_,ep',ob,h2,h3,h4⟩:=hv
   rw [hl] at h2
   cases h2
   have hu:=(h4 rfl).2
   obtain ⟨us,hp⟩:=ZbX (h.objs o _ _ hl)
   obtain ⟨A,c,g1,g2,g3,g4⟩:=hp.slice
   rw [hu,g1]
   refine .lst us g2 g3 hp.uni hp.flt hp.len (fun hn=>?_) fun k x u hx hv=>(hp.rd k x u hx hv).mono (fun b hb=>?_) fun _ _=>rfl
   ·obtain ⟨g,off,rfl,g5,_,g6⟩:=g4 hn
    exact ⟨_,rfl,hO' _ _ hl (hp.top _ g5),fun k u hk=>by rw [ZaS];exact g6 k u hk⟩
   ·rcases hb with hb|hb
    ·exact hO' _ _ hl hb
    ·exact hB _ hb
  | _=>exact hs.elim
 | view o ep i n =>
  have hO':=hO o (by simp [ZjI])
  cases x with
  | t z =>
   obtain ⟨fl,d,e,els,hl,hin,rfl⟩:=hs
   obtain ⟨_,ep',ob,h2,h3,h4⟩:=hv
   rw [hl] at h2
   cases h2
   obtain ⟨_,A,c,hu,hc1,hc2,hA⟩:=h4 rfl
   obtain ⟨us,hp⟩:=ZbX (h.objs o _ _ hl)
   obtain ⟨A0,c0,g1,g2,g3,g4⟩:=hp.slice
   have hnl:((els.drop i).take n).length=n:=by rw [List.length_take,List.length_drop];omega
   have hcut:=ZcF hp.uni i n
   have hsub:∀ (k:Nat) (x:T),((els.drop i).take n).flatten[k]?=some x→k < n * P.cellsOf e∧els.flatten[i * P.cellsOf e + k]?=some x:=fun k x hx=>by
    rw [hcut,List.getElem?_take] at hx
    split at hx
    ·rename_i hk
     rw [List.getElem?_drop] at hx
     exact ⟨hk,hx⟩
    ·cases hx
   have hsubu:∀ (k:Nat) (u:Value),((us.drop (i * P.cellsOf e)).take (n * P.cellsOf e))[k]?=some u→us[i * P.cellsOf e + k]?=some u:=fun k u hx=>by
    rw [List.getElem?_take] at hx
    split at hx
    ·rw [List.getElem?_drop] at hx;exact hx
    ·cases hx
   rw [hu]
   show Rd P w Bx (.lst fl e ((els.drop i).take n)) (.slice A n c)
   have hgoal:Rd P w Bx (.lst fl e ((els.drop i).take n)) (.slice A ((els.drop i).take n).length c):=?_
   ·rwa [hnl] at hgoal
   refine .lst ((us.drop (i * P.cellsOf e)).take (n * P.cellsOf e)) (by rw [hnl];exact hc1) hc2 (fun x hx=>hp.uni x (List.mem_of_mem_drop (List.mem_of_mem_take hx))) (fun hf x hx=>?_) ?_ (fun hn=>?_) fun k x u hx hv=>?_
   ·obtain ⟨k,hk,rfl⟩:=List.getElem_of_mem hx
    exact hp.flt hf _ (List.mem_of_getElem? (hsub k _ (List.getElem?_eq_getElem hk)).2)
   ·rw [hcut,List.length_take,List.length_drop,List.length_take,List.length_drop,hp.len]
   ·have hn0:0 < n:=Nat.pos_of_ne_zero fun e=>hn (by rw [e];simp)
    obtain ⟨g,b,hb,rfl⟩:=hA hn0
    have husn:us ≠ []:=fun e=>hn (by rw [e];simp)
    obtain ⟨g',off,_,g5,g7,g6⟩:=g4 husn
    rw [g7] at hb
    cases hb
    refine ⟨_,rfl,hO' _ _ hl (hp.top _ g5),fun k u hk=>?_⟩
    rw [ZaS,Nat.add_assoc]
    exact g6 _ u (hsubu k u hk)
   ·refine (hp.rd _ x u (hsub k x hx).2 (hsubu k u hv)).mono (fun b hb=>?_) fun _ _=>rfl
    rcases hb with hb|hb
    ·exact hO' _ _ hl hb
    ·exact hB _ hb
  | _=>exact hs.elim
 | lit y =>
  cases x with
  | lit z=>cases hs;exact hv
  | _=>exact hs.elim
 | _=>cases x<;>exact hs.elim
theorem SimW.seeL (h:SimW P B W st a w pl F) {Bx:Nat→Prop} (hB:∀ b,Free B W.o (look st.objs) F w b→Bx b):∀ {cs ds:List V} {us:List Value},(∀ o,o ∈ cs.flatMap ZjI→∀ y b,look st.objs o=some y→F o b→Bx b)→Pw (C0 P w (look st.objs) pl (Free B W.o (look st.objs) F w)) cs us→SeeL (look st.objs) cs ds→Pw (C0 P w noLk noPl Bx) ds us
 | [],[],us,_,hp,_=>by rw [List.eq_nil_of_length_eq_zero hp.1];exact Pw.nil
 | [],_ :: _,_,_,_,hs=>hs.elim
 | _ :: _,[],_,_,_,hs=>hs.elim
 | _ :: _,_ :: _,[],_,hp,_=>by have:=hp.1;simp at this
 | c :: cs,d :: ds,u :: us,hO,hp,hs =>
  Pw.cons (h.see0 hB (fun o ho=>hO o (by rw [List.flatMap_cons];exact List.mem_append_left _ ho)) (hp.2 0 c u rfl rfl) hs.1)
   (h.seeL hB (fun o ho=>hO o (by rw [List.flatMap_cons];exact List.mem_append_right _ ho)) (⟨by have:=hp.1;simpa using this,fun k x v hx hv=>hp.2 (k + 1) x v (by simpa using hx) (by simpa using hv)⟩) hs.2)
theorem SimW.see1 (h:SimW P B W st a w pl F) {Bx:Nat→Prop} (hB:∀ b,Free B W.o (look st.objs) F w b→Bx b) {v x:V} (hO:∀ o,o ∈ Zp7 v→∀ y b,look st.objs o=some y→F o b→Bx b) {u:Value} (hv:C2 P w (look st.objs) pl (Free B W.o (look st.objs) F w) v u) (hs:See1 (look st.objs) v x):C1 P w noLk noPl Bx x u:=by
 cases v with
 | agg cs =>
  cases x with
  | agg ds =>
   obtain ⟨us,h1,h2,h3⟩:=hv
   obtain ⟨g1,g2⟩:=h.seeL hB hO ⟨h2,h3⟩ hs
   exact ⟨us,h1,g1,g2⟩
  | _=>exact hs.elim
 | tup vs=>cases x<;>exact hs.elim
 | fr=>cases x<;>exact hs.elim
 | junk=>cases x<;>exact hs.elim
 | ptr=>cases x<;>exact hs.elim
 | rptr=>cases x<;>exact hs.elim
 | t y=>exact (h.see0 hB (v:=.t y) hO hv (by cases x<;>exact hs)).c1
 | hnd o ep=>exact (h.see0 hB (v:=.hnd o ep) hO hv (by cases x<;>exact hs)).c1
 | view o ep i n=>exact (h.see0 hB (v:=.view o ep i n) hO hv (by cases x<;>exact hs)).c1
 | lit y=>exact (h.see0 hB (v:=.lit y) hO hv (by cases x<;>exact hs)).c1
theorem SimW.seeA (h:SimW P B W st a w pl F) {Bx:Nat→Prop} (hB:∀ b,Free B W.o (look st.objs) F w b→Bx b):∀ (xs:List Operand) (aS:List V),(∀ o,o ∈ (xs.map st.ev).flatMap Zp7→∀ y b,look st.objs o=some y→F o b→Bx b)→SeeA (look st.objs) (xs.map st.ev) aS→Pw (C1 P w noLk noPl Bx) aS (xs.map a.eval)
 | [],[],_,_=>Pw.nil
 | [],_ :: _,_,hs=>hs.elim
 | _ :: _,[],_,hs=>hs.elim
 | x :: xs,d :: ds,hO,hs=>Pw.cons (h.see1 hB (fun o ho=>hO o (by rw [List.map_cons,List.flatMap_cons];exact List.mem_append_left _ ho)) (h.ev x) hs.1)
   (h.seeA hB xs ds (fun o ho=>hO o (by rw [List.map_cons,List.flatMap_cons];exact List.mem_append_right _ ho)) hs.2)
end
def ZnE:V→Bool
 | .t x=>x.flat
 | .fr .. | .lit _=>true
 | _=>false
def ZdG:V→Bool
 | .tup vs=>vs.all fun v=>match v with | .agg cs=>cs.all ZnE|v=>ZnE v
 | .agg cs=>cs.all ZnE
 | v=>ZnE v
section
variable (ro:Bool) (lk:Nat→Option (Nat×Ob))
def imp0 (id:Nat):V→V
 | .fr fl e els=>if ro then .t (.lst fl e els) else .hnd id (nep (lk id))
 | v=>v
def upd0 (id:Nat):V→List (Nat×Nat×Ob)
 | .fr fl e els=>if ro then [] else [(id,nep (lk id),.row fl true e els)]
 | _=>[]
def impL:Nat→List V→List V
 | _,[]=>[]
 | id,v :: r=>imp0 ro lk id v :: impL (id + 1) r
def updL:Nat→List V→List (Nat×Nat×Ob)
 | _,[]=>[]
 | id,v :: r=>upd0 ro lk id v++updL (id + 1) r
def imp1 (id:Nat):V→V
 | .agg cs=>.agg (impL ro lk id cs)
 | v=>imp0 ro lk id v
def upd1 (id:Nat):V→List (Nat×Nat×Ob)
 | .agg cs=>updL ro lk id cs
 | v=>upd0 ro lk id v
def ZhF:Nat→List V→List V
 | _,[]=>[]
 | id,v :: r=>imp1 ro lk id v :: ZhF (id + 64) r
def Zli:Nat→List V→List (Nat×Nat×Ob)
 | _,[]=>[]
 | id,v :: r=>upd1 ro lk id v++Zli (id + 64) r
def imp2 (id:Nat):V→V
 | .tup vs=>.tup (ZhF ro lk id vs)
 | v=>imp1 ro lk id v
def upd2 (id:Nat):V→List (Nat×Nat×Ob)
 | .tup vs=>Zli ro lk id vs
 | v=>upd1 ro lk id v
end
def ZbG:V→Nat→Nat→Option V
 | .tup vs,j,k=>match vs[j]? with|some (.agg cs)=>cs[k]?|some v=>if k=0 then some v else none|none=>none
 | .agg cs,j,k=>if j=0 then cs[k]? else none
 | v,j,k=>if j=0∧k=0 then some v else none
def Zm5:V→Bool
 | .agg cs=>decide (cs.length≤64)
 | _=>true
def ZdY:V→Bool
 | .tup vs=>vs.all Zm5
 | v=>Zm5 v
section
variable {ro:Bool} {lk:Nat→Option (Nat×Ob)}
theorem ZmK {id i e:Nat} {b:Ob} {v:V}:(i,e,b) ∈ upd0 ro lk id v↔ro=false∧∃ fl t els,v=.fr fl t els∧i=id∧e=nep (lk i)∧b=.row fl true t els:=by
 cases v with
 | fr fl t els =>
  cases ro with
  | false =>
   have:upd0 false lk id (.fr fl t els)=[(id,nep (lk id),.row fl true t els)]:=rfl
   rw [this,List.mem_singleton]
   constructor
   ·intro h
    cases h
    exact ⟨rfl,fl,t,els,rfl,rfl,rfl,rfl⟩
   ·rintro ⟨_,fl',t',els',h,rfl,rfl,rfl⟩
    cases h
    rfl
  | true =>
   have:upd0 true lk id (.fr fl t els)=[]:=rfl
   rw [this]
   exact ⟨fun h=>(by cases h),fun h=>(by cases h.1)⟩
 | _=>exact ⟨fun h=>(by cases h),fun ⟨_,_,_,_,h,_⟩=>(by cases h)⟩
theorem ZmM {e:Nat} {b:Ob}:∀ {cs:List V} {id i:Nat},(i,e,b) ∈ updL ro lk id cs↔ro=false∧∃ (k:Nat) (fl:Bool) (t:TypeId) (els:List (List T)),cs[k]?=some (.fr fl t els)∧i=id + k∧e=nep (lk i)∧b=.row fl true t els
 | [],_,_=>by simp [updL]
 | v :: r,id,i=>by
  unfold updL
  rw [List.mem_append,ZmK,ZmM]
  constructor
  ·rintro (⟨h0,fl,t,els,rfl,rfl,h1,h2⟩|⟨h0,k,fl,t,els,h1,rfl,h2,h3⟩)
   ·exact ⟨h0,0,fl,t,els,rfl,rfl,h1,h2⟩
   ·exact ⟨h0,k + 1,fl,t,els,by simpa using h1,by omega,h2,h3⟩
  ·rintro ⟨h0,k,fl,t,els,h1,rfl,h2,h3⟩
   cases k with
   | zero=>simp at h1;exact .inl ⟨h0,fl,t,els,h1,rfl,h2,h3⟩
   | succ k=>exact .inr ⟨h0,k,fl,t,els,by simpa using h1,by omega,h2,h3⟩
def cell1:V→Nat→Option V
 | .agg cs,k=>cs[k]?
 | v,k=>if k=0 then some v else none
theorem Zcc {v:V} (hn:∀ cs,v ≠ .agg cs) (k:Nat):cell1 v k=if k=0 then some v else none:=by cases v<;>first|rfl|exact absurd rfl (hn _)
theorem upd1_ne {v:V} (hn:∀ cs,v ≠ .agg cs) (id:Nat):upd1 ro lk id v=upd0 ro lk id v:=by cases v<;>first|rfl|exact absurd rfl (hn _)
theorem ZmL {e id i:Nat} {b:Ob} {v:V}:(i,e,b) ∈ upd1 ro lk id v↔ro=false∧∃ (k:Nat) (fl:Bool) (t:TypeId) (els:List (List T)),cell1 v k=some (.fr fl t els)∧i=id + k∧e=nep (lk i)∧b=.row fl true t els:=by
 by_cases hv:∃ cs,v=.agg cs
 ·obtain ⟨cs,rfl⟩:=hv
  exact ZmM
 ·have hn:∀ cs,v ≠ .agg cs:=fun cs e=>hv ⟨cs,e⟩
  rw [upd1_ne hn,ZmK]
  constructor
  ·rintro ⟨h0,fl,t,els,h1,rfl,h2,h3⟩
   exact ⟨h0,0,fl,t,els,by rw [Zcc hn,if_pos rfl,h1],rfl,h2,h3⟩
  ·rintro ⟨h0,k,fl,t,els,h1,rfl,h2,h3⟩
   rw [Zcc hn] at h1
   split at h1
   ·rename_i hk
    subst hk
    exact ⟨h0,fl,t,els,Option.some.inj h1,rfl,h2,h3⟩
   ·cases h1
theorem ZkJ {e:Nat} {b:Ob}:∀ {vs:List V} {id i:Nat},(i,e,b) ∈ Zli ro lk id vs↔ro=false∧∃ (j k:Nat) (v:V) (fl:Bool) (t:TypeId) (els:List (List T)),vs[j]?=some v∧cell1 v k=some (.fr fl t els)∧i=id + j * 64 + k∧e=nep (lk i)∧b=.row fl true t els
 | [],_,_=>by simp [Zli]
 | v :: r,id,i=>by
  unfold Zli
  rw [List.mem_append,ZmL,ZkJ]
  constructor
  ·rintro (⟨h0,k,fl,t,els,h1,rfl,h2,h3⟩|⟨h0,j,k,v,fl,t,els,h1,h2,rfl,h3,h4⟩)
   ·exact ⟨h0,0,k,v,fl,t,els,rfl,h1,by omega,h2,h3⟩
   ·exact ⟨h0,j + 1,k,v,fl,t,els,by simpa using h1,h2,by omega,h3,h4⟩
  ·rintro ⟨h0,j,k,v',fl,t,els,h1,h2,rfl,h3,h4⟩
   cases j with
   | zero=>simp at h1;subst h1;exact .inl ⟨h0,k,fl,t,els,h2,by omega,h3,h4⟩
   | succ j=>exact .inr ⟨h0,j,k,v',fl,t,els,by simpa using h1,h2,by omega,h3,h4⟩
theorem Zcp {vs:List V} {j k:Nat} {x:V} (h:ZbG (.tup vs) j k=some x):∃ v,vs[j]?=some v∧cell1 v k=some x:=by
 unfold ZbG at h
 cases hv:vs[j]? with
 | none=>simp only [hv] at h;cases h
 | some v =>
  refine ⟨v,rfl,?_⟩
  cases v<;>simp only [hv] at h<;>exact h
theorem ZeZ {vs:List V} {j k:Nat} {x v:V} (hv:vs[j]?=some v) (h:cell1 v k=some x):ZbG (.tup vs) j k=some x:=by
 unfold ZbG
 cases v<;>simp only [hv]<;>exact h
theorem ZcD {v:V} {j k:Nat} {x:V} (hn:∀ vs,v ≠ .tup vs):ZbG v j k=some x↔j=0∧cell1 v k=some x:=by
 by_cases hv:∃ cs,v=.agg cs
 ·obtain ⟨cs,rfl⟩:=hv
  show (if j=0 then cs[k]? else none)=some x↔j=0∧cs[k]?=some x
  by_cases hj:j=0<;>simp [hj]
 ·have hn':∀ cs,v ≠ .agg cs:=fun cs e=>hv ⟨cs,e⟩
  have h1:ZbG v j k=if j=0∧k=0 then some v else none:=by cases v<;>first|rfl|exact absurd rfl (hn _)|exact absurd rfl (hn' _)
  rw [h1,Zcc hn']
  by_cases hj:j=0<;>by_cases hk:k=0<;>simp [hj,hk]
theorem Zea {e i:Nat} {b:Ob} {r:V} {id:Nat}:(i,e,b) ∈ upd2 ro lk id r↔ro=false∧∃ (j k:Nat) (fl:Bool) (t:TypeId) (els:List (List T)),ZbG r j k=some (.fr fl t els)∧i=id + j * 64 + k∧e=nep (lk i)∧b=.row fl true t els:=by
 by_cases hr:∃ vs,r=.tup vs
 ·obtain ⟨vs,rfl⟩:=hr
  unfold upd2
  rw [ZkJ]
  constructor
  ·rintro ⟨h0,j,k,v,fl,t,els,h1,h2,h3⟩
   exact ⟨h0,j,k,fl,t,els,ZeZ h1 h2,h3⟩
  ·rintro ⟨h0,j,k,fl,t,els,h1,h3⟩
   obtain ⟨v,h4,h5⟩:=Zcp h1
   exact ⟨h0,j,k,v,fl,t,els,h4,h5,h3⟩
 ·have hn:∀ vs,r ≠ .tup vs:=fun vs e=>hr ⟨vs,e⟩
  have hu:upd2 ro lk id r=upd1 ro lk id r:=by cases r<;>first|rfl|exact absurd rfl (hn _)
  rw [hu,ZmL]
  constructor
  ·rintro ⟨h0,k,fl,t,els,h1,h2⟩
   exact ⟨h0,0,k,fl,t,els,(ZcD hn).2 ⟨rfl,h1⟩,by simpa using h2⟩
  ·rintro ⟨h0,j,k,fl,t,els,h1,h2⟩
   obtain ⟨rfl,h3⟩:=(ZcD hn).1 h1
   exact ⟨h0,k,fl,t,els,h3,by simpa using h2⟩
theorem ZcQ {r:V} (hs:ZdY r=true) {j k:Nat} {x:V} (h:ZbG r j k=some x):k < 64:=by
 have h1:∀ {v:V},Zm5 v=true→∀ {k x},cell1 v k=some x→k < 64:=fun {v} hv {k x} hx=>by
  by_cases hv':∃ cs,v=.agg cs
  ·obtain ⟨cs,rfl⟩:=hv'
   have h1:=(List.getElem?_eq_some_iff.1 hx).1
   have h2:cs.length≤64:=of_decide_eq_true hv
   omega
  ·rw [Zcc (fun cs e=>hv' ⟨cs,e⟩)] at hx
   split at hx
   ·omega
   ·cases hx
 by_cases hr:∃ vs,r=.tup vs
 ·obtain ⟨vs,rfl⟩:=hr
  obtain ⟨v,h2,h3⟩:=Zcp h
  exact h1 (List.all_eq_true.1 hs _ (List.mem_of_getElem? h2)) h3
 ·have hn:∀ vs,r ≠ .tup vs:=fun vs e=>hr ⟨vs,e⟩
  have hu:ZdY r=Zm5 r:=by cases r<;>first|rfl|exact absurd rfl (hn _)
  exact h1 (by rw [← hu];exact hs) ((ZcD hn).1 h).2
end
theorem Zcu:∀ (l objs:List (Nat×Nat×Ob)) (i:Nat),(∀ e b,(i,e,b) ∉ l)→look (updl objs l) i=look objs i
 | [],_,_,_=>rfl
 | (o,e,b) :: r,objs,i,h=>by
  show look (updl (updo objs o e b) r) i=_
  rw [Zcu r _ i fun e' b' h'=>h e' b' (by simp [h']),ZdV,if_neg]
  rintro rfl
  exact h e b (by simp)
theorem Zd9:∀ (l objs:List (Nat×Nat×Ob)) (i e:Nat) (b:Ob),(i,e,b) ∈ l→(∀ e' b',(i,e',b') ∈ l→e'=e∧b'=b)→look (updl objs l) i=some (e,b)
 | (o,e0,b0) :: r,objs,i,e,b,h,hu=>by
  show look (updl (updo objs o e0 b0) r) i=_
  by_cases hr:∃ e' b',(i,e',b') ∈ r
  ·obtain ⟨e',b',h'⟩:=hr
   obtain ⟨rfl,rfl⟩:=hu e' b' (by simp [h'])
   exact Zd9 r _ i _ _ h' fun e'' b'' h''=>hu e'' b'' (by simp [h''])
  ·rw [Zcu r _ i fun e' b' h'=>hr ⟨e',b',h'⟩,ZdV]
   rcases List.mem_cons.1 h with h|h
   ·cases h;simp
   ·exact absurd ⟨e,b,h⟩ hr
theorem SimW.news {P:Program} {B:Nat→Prop} {W:En} {st:St} {a:Act} {w w':World} {pl:Nat→Value} {F:Nat→Nat→Prop} (h:SimW P B W st a w pl F) {objs':List (Nat×Nat×Ob)} {nv:Nat→Value} {nF:Nat→Nat→Prop} {Nw:Nat→Prop}
  (hw:Below w.heap.size w w') (hl:∀ i,¬ Nw i→look objs' i=look st.objs i) (hn:∀ i,Nw i→∃ ep ob,look objs' i=some (ep,ob)∧(∀ ep0 ob0,look st.objs i=some (ep0,ob0)→ep0 < ep)∧0 < ep)
  (hF:∀ i b,Nw i→nF i b→w.heap.size≤b∧b < w'.heap.size) (hd:∀ i j b,Nw i→Nw j→i ≠ j→nF i b→¬ nF j b)
  (hob:∀ i ep ob,Nw i→look objs' i=some (ep,ob)→∀ CC Rr,ObR P w' CC Rr (nv i) (nF i) ob) :
  ∃ pl' F',SimW P B W { st with objs:=objs' } a w' pl' F'∧(∀ i,Nw i→pl' i=nv i)∧Goes P w w' (look st.objs) (look objs') pl pl' (Free B W.o (look st.objs) F w) (Free B W.o (look objs') F' w') ∧
   (∀ b,(Free B W.o (look st.objs) F w b∨w.heap.size≤b)→b < w'.heap.size→(∀ i,Nw i→¬ nF i b)→Free B W.o (look objs') F' w' b)∧(∀ j,¬ Nw j→F' j=F j):=by
 classical
 let pl':Nat→Value:=fun i=>if Nw i then nv i else pl i
 let F':Nat→Nat→Prop:=fun i=>if Nw i then nF i else F i
 have e1:∀ i,Nw i→F' i=nF i:=fun i h=>if_pos h
 have e2:∀ i,¬ Nw i→F' i=F i:=fun i h=>if_neg h
 have hfr:∀ b,(Free B W.o (look st.objs) F w b∨w.heap.size≤b)→b < w'.heap.size→(∀ i,Nw i→¬ nF i b)→Free B W.o (look objs') F' w' b:=fun b hb hlt hnb=>by
  refine ⟨?_,hlt,fun i x hi hf=>?_⟩
  ·rcases hb with hb|hb
   ·exact hb.1
   ·exact .inr (.inl (Nat.le_trans h.below.size hb))
  ·by_cases hN:Nw i
   ·rw [e1 i hN] at hf;exact hnb i hN hf
   ·rw [e2 i hN] at hf
    rw [hl i hN] at hi
    rcases hb with hb|hb
    ·exact hb.2.2 _ _ hi hf
    ·have:=(h.range _ _ _ hi hf).2;omega
 have g:Goes P w w' (look st.objs) (look objs') pl pl' (Free B W.o (look st.objs) F w) (Free B W.o (look objs') F' w'):=by
  refine ⟨fun b hb=>hfr b (.inl hb) (Nat.lt_of_lt_of_le hb.2.1 hw.size) fun i hi hf=>?_,fun b hb=>hw.block b hb.2.1,fun o ep ob ho=>?_⟩
  ·have:=(hF i b hi hf).1
   have:=hb.2.1
   omega
  ·by_cases hN:Nw o
   ·obtain ⟨ep',ob',h1,h2,_⟩:=hn o hN
    exact ⟨ep',ob',h1,.inl (h2 _ _ ho)⟩
   ·exact ⟨ep,ob,(hl o hN).trans ho,.inr ⟨rfl,if_neg hN,rfl,rfl⟩⟩
 refine ⟨pl',F',⟨h.old,h.size,h.defers,h.below.trans (Below.kp hw h.below.size),fun i hi=>(h.tmps i hi).goes g,fun o ep ob ho=>?_,fun o x b ho hf=>?_,fun o o' x x' b hne ho ho' hf hf'=>?_,fun o ob0 h0 ep ob ho=>?_⟩,fun i hi=>if_pos hi,g,hfr,e2⟩
 ·by_cases hN:Nw o
  ·rw [e1 o hN,show pl' o=nv o from if_pos hN]
   exact hob o ep ob hN ho _ _
  ·have ho0:=ho
   rw [hl o hN] at ho0
   rw [e2 o hN,show pl' o=pl o from if_neg hN]
   exact (h.objs o ep ob ho0).goes (fun b hb=>hw.block b (h.range o _ b ho0 hb).2) (fun _ _ hc=>C0.goes g hc) (fun _ _ hr=>hr.mono g.more g.heap)
 ·by_cases hN:Nw o
  ·rw [e1 o hN] at hf
   have:=hF o b hN hf
   exact ⟨.inl (Nat.le_trans h.below.size this.1),this.2⟩
  ·rw [e2 o hN] at hf
   rw [hl o hN] at ho
   have:=h.range _ _ _ ho hf
   exact ⟨this.1,Nat.lt_of_lt_of_le this.2 hw.size⟩
 ·by_cases hN:Nw o
  ·rw [e1 o hN] at hf
   by_cases hN':Nw o'
   ·rw [e1 o' hN'] at hf'
    exact hd o o' b hN hN' hne hf hf'
   ·rw [e2 o' hN'] at hf'
    rw [hl o' hN'] at ho'
    have:=(h.range _ _ _ ho' hf').2
    have:=(hF o b hN hf).1
    omega
  ·rw [e2 o hN] at hf
   rw [hl o hN] at ho
   by_cases hN':Nw o'
   ·rw [e1 o' hN'] at hf'
    have:=(h.range _ _ _ ho hf).2
    have:=(hF o' b hN' hf').1
    omega
   ·rw [e2 o' hN'] at hf'
    rw [hl o' hN'] at ho'
    exact h.apart _ _ _ _ b hne ho ho' hf hf'
 ·by_cases hN:Nw o
  ·obtain ⟨ep',ob',h1,_,h2⟩:=hn o hN
   rw [h1] at ho
   cases ho
   exact .inl h2
  ·rw [hl o hN] at ho
   rcases h.hist o ob0 h0 ep ob ho with h5|⟨h5,h6⟩
   ·exact .inl h5
   ·exact .inr ⟨(if_neg hN).trans h5,h6⟩
def cel1:Value→Nat→Value
 | .agg cs,k=>(cs.toList[k]?).getD undef
 | v,_=>v
def celU:Value→Nat→Nat→Value
 | .tuple us,j,k=>cel1 ((us.toList[j]?).getD undef) k
 | v,_,k=>cel1 v k
section
variable {P:Program} {w w':World} {Fr:Nat→Prop}
theorem Zg6 {fl:Bool} {e:TypeId} {els:List (List T)} {u:Value} {F:Nat→Prop} (h:Ow P w (.lst fl e els) u F):∃ A n c,u=.slice A n c:=by
 cases h with
 | flat hf=>cases hf
 | lst us fs h1=>obtain ⟨A,c,h,_⟩:=Zbm h1;exact ⟨A,_,c,h⟩
theorem Zol {F:Nat→Nat→Prop} {v:V} {u:Value} (h:R1 P w Fr F v u) {k:Nat} {fl:Bool} {e:TypeId} {els:List (List T)} (hc:cell1 v k=some (.fr fl e els)) :
  Ow P w (.lst fl e els) (cel1 u k) (F k):=by
 by_cases hv:∃ cs,v=.agg cs
 ·obtain ⟨cs,rfl⟩:=hv
  obtain ⟨us,rfl,h1,h2⟩:=h
  have hc':cs[k]?=some (.fr fl e els):=hc
  have hlt:k < us.length:=by rw [h1];exact (List.getElem?_eq_some_iff.1 hc').1
  have h3:=h2 k _ _ hc' (List.getElem?_eq_getElem hlt)
  have h4:cel1 (.agg us.toArray) k=us[k]:=by simp [cel1,List.getElem?_eq_getElem hlt]
  rw [h4]
  exact h3
 ·rw [Zcc (fun cs e=>hv ⟨cs,e⟩)] at hc
  split at hc
  ·rename_i hk
   subst hk
   have e1:=Option.some.inj hc
   subst e1
   have h0:Ow P w (.lst fl e els) u (F 0):=h
   obtain ⟨A,n,c,rfl⟩:=Zg6 h0
   exact h0
  ·cases hc
theorem cellU {F:Nat→Nat→Nat→Prop} {r:V} {u:Value} (h:R2 P w Fr F r u) {j k:Nat} {fl:Bool} {e:TypeId} {els:List (List T)} (hc:ZbG r j k=some (.fr fl e els)):Ow P w (.lst fl e els) (celU u j k) (F j k):=by
 by_cases hr:∃ vs,r=.tup vs
 ·obtain ⟨vs,rfl⟩:=hr
  obtain ⟨v,h1,h2⟩:=Zcp hc
  obtain ⟨us,rfl,h3,h4⟩:=h
  have hlt:j < us.length:=by rw [h3];exact (List.getElem?_eq_some_iff.1 h1).1
  have h5:=Zol (h4 j v _ h1 (List.getElem?_eq_getElem hlt)) h2
  have h6:celU (.tuple us.toArray) j k=cel1 us[j] k:=by simp [celU,List.getElem?_eq_getElem hlt]
  rw [h6]
  exact h5
 ·have hn:∀ vs,r ≠ .tup vs:=fun vs e=>hr ⟨vs,e⟩
  obtain ⟨rfl,h2⟩:=(ZcD hn).1 hc
  have h1:R1 P w Fr (F 0) r u:=by cases r<;>first|exact h|exact absurd rfl (hn _)
  have h5:=Zol h1 h2
  obtain ⟨A,n,c,h6⟩:=Zg6 h5
  unfold celU
  cases u with
  | tuple us=>cases h6
  | _=>exact h5
theorem ZoA {ro:Bool} {lk lk':Nat→Option (Nat×Ob)} {pl':Nat→Value} {NF Fj:Nat→Prop} {id:Nat} {v:V} {x:Value} (h:R0 P w Fr Fj v x) (h1:∀ y,v=.t y→Rd P w NF y x) (h2:∀ fl e els,v=.fr fl e els→ro=false→lk' id=some (nep (lk id),.row fl true e els)∧pl' id=x) (h3:∀ b,ro=true→Fj b→NF b) :
  C0 P w lk' pl' NF (imp0 ro lk id v) x:=by
 cases v with
 | t y=>exact h1 y rfl
 | fr fl e els =>
  have h':Ow P w (.lst fl e els) x Fj:=h
  cases ro with
  | true=>exact h'.rd fun b hb=>h3 b rfl hb
  | false =>
   obtain ⟨g1,g2⟩:=h2 _ _ _ rfl rfl
   exact ⟨h'.one,_,_,g1,Nat.le_refl _,fun _=>⟨rfl,g2.symm⟩⟩
 | lit y=>exact h
 | _=>exact h.elim
theorem ZmE {ro:Bool} {lk:Nat→Option (Nat×Ob)}:∀ (id:Nat) (cs:List V),(impL ro lk id cs).length=cs.length
 | _,[]=>rfl
 | id,_ :: r=>by simp [impL,ZmE (id + 1) r]
theorem ZoE {ro:Bool} {lk:Nat→Option (Nat×Ob)}:∀ (id:Nat) (cs:List V) (k:Nat),(impL ro lk id cs)[k]?=(cs[k]?).map (imp0 ro lk (id + k))
 | _,[],_=>by simp [impL]
 | id,v :: r,0=>by simp [impL]
 | id,v :: r,k + 1=>by simp only [impL,List.getElem?_cons_succ,ZoE (id + 1) r k];congr 2;omega
theorem Zkt {ro:Bool} {lk:Nat→Option (Nat×Ob)}:∀ (id:Nat) (cs:List V),(ZhF ro lk id cs).length=cs.length
 | _,[]=>rfl
 | id,_ :: r=>by simp [ZhF,Zkt (id + 64) r]
theorem ZmD {ro:Bool} {lk:Nat→Option (Nat×Ob)}:∀ (id:Nat) (cs:List V) (k:Nat),(ZhF ro lk id cs)[k]?=(cs[k]?).map (imp1 ro lk (id + k * 64))
 | _,[],_=>by simp [ZhF]
 | id,v :: r,0=>by simp [ZhF]
 | id,v :: r,k + 1=>by simp only [ZhF,List.getElem?_cons_succ,ZmD (id + 64) r k];congr 2;omega
theorem ZoB {ro:Bool} {lk lk':Nat→Option (Nat×Ob)} {pl':Nat→Value} {NF:Nat→Prop} {F:Nat→Nat→Prop} {id:Nat} {v:V} {u:Value} (h:R1 P w Fr F v u) (h1:∀ k y x,cell1 v k=some (.t y)→Rd P w Fr y x→Rd P w NF y x)
  (h2:∀ k fl e els,cell1 v k=some (.fr fl e els)→ro=false→lk' (id + k)=some (nep (lk (id + k)),.row fl true e els)∧pl' (id + k)=cel1 u k) (h3:∀ k b,ro=true→F k b→NF b) :
  C1 P w lk' pl' NF (imp1 ro lk id v) u:=by
 by_cases hv:∃ cs,v=.agg cs
 ·obtain ⟨cs,rfl⟩:=hv
  obtain ⟨us,rfl,g1,g2⟩:=h
  refine ⟨us,rfl,by rw [ZmE,g1],fun k z x hz hx=>?_⟩
  rw [ZoE,Option.map_eq_some_iff] at hz
  obtain ⟨y,hy,rfl⟩:=hz
  refine ZoA (g2 k y x hy hx) (fun t e=>?_) (fun fl e els e1 e2=>?_) (h3 k)
  ·subst e
   exact h1 k t x hy (g2 k _ x hy hx)
  ·subst e1
   have:=h2 k fl e els hy e2
   exact ⟨this.1,by rw [this.2];simp [cel1,hx]⟩
 ·have hn:∀ cs,v ≠ .agg cs:=fun cs e=>hv ⟨cs,e⟩
  have e0:imp1 ro lk id v=imp0 ro lk id v:=by cases v<;>first|rfl|exact absurd rfl (hn _)
  have h0:R0 P w Fr (F 0) v u:=by cases v<;>first|exact h|exact absurd rfl (hn _)
  rw [e0]
  have hc:cell1 v 0=some v:=by rw [Zcc hn,if_pos rfl]
  refine (ZoA h0 (fun t e=>?_) (fun fl e els e1 e2=>?_) (h3 0)).c1
  ·subst e
   exact h1 0 t u hc h0
  ·subst e1
   have h4:=h2 0 fl e els hc e2
   refine ⟨h4.1,h4.2.trans ?_⟩
   obtain ⟨A,n,c,rfl⟩:=Zg6 (show Ow P w (.lst fl e els) u (F 0) from h0)
   rfl
theorem ZoD {ro:Bool} {lk lk':Nat→Option (Nat×Ob)} {pl':Nat→Value} {NF:Nat→Prop} {F:Nat→Nat→Nat→Prop} {id:Nat} {r:V} {u:Value} (h:R2 P w Fr F r u) (h1:∀ j k y x,ZbG r j k=some (.t y)→Rd P w Fr y x→Rd P w NF y x)
  (h2:∀ j k fl e els,ZbG r j k=some (.fr fl e els)→ro=false→lk' (id + j * 64 + k)=some (nep (lk (id + j * 64 + k)),.row fl true e els)∧pl' (id + j * 64 + k)=celU u j k) (h3:∀ j k b,ro=true→F j k b→NF b) :
  C2 P w lk' pl' NF (imp2 ro lk id r) u:=by
 by_cases hr:∃ vs,r=.tup vs
 ·obtain ⟨vs,rfl⟩:=hr
  obtain ⟨us,rfl,g1,g2⟩:=h
  refine ⟨us,rfl,by rw [Zkt,g1],fun j z x hz hx=>?_⟩
  rw [ZmD,Option.map_eq_some_iff] at hz
  obtain ⟨y,hy,rfl⟩:=hz
  refine ZoB (g2 j y x hy hx) (fun k t v hc hrd=>h1 j k t v (ZeZ hy hc) hrd) (fun k fl e els hc e2=>?_) (fun k b=>h3 j k b)
  have:=h2 j k fl e els (ZeZ hy hc) e2
  refine ⟨this.1,this.2.trans ?_⟩
  simp [celU,hx]
 ·have hn:∀ vs,r ≠ .tup vs:=fun vs e=>hr ⟨vs,e⟩
  have e0:imp2 ro lk id r=imp1 ro lk id r:=by cases r<;>first|rfl|exact absurd rfl (hn _)
  have h0:R1 P w Fr (F 0) r u:=by cases r<;>first|exact h|exact absurd rfl (hn _)
  rw [e0]
  refine (ZoB h0 (fun k t v hc hrd=>h1 0 k t v ((ZcD hn).2 ⟨rfl,hc⟩) hrd) (fun k fl e els hc e2=>?_) (fun k b=>h3 0 k b)).c2
  have h4:=h2 0 k fl e els ((ZcD hn).2 ⟨rfl,hc⟩) e2
  simp only [Nat.zero_mul,Nat.add_zero] at h4
  refine ⟨h4.1,h4.2.trans ?_⟩
  have h5:=Zol h0 hc
  obtain ⟨A,n,c,h6⟩:=Zg6 h5
  unfold celU
  cases u with
  | tuple us=>cases h6
  | _=>rfl
end
theorem ZhR {r:V} (hp:ZdG r=true) {j k:Nat} {y:T} (h:ZbG r j k=some (.t y)):y.flat=true:=by
 have key:∀ v:V,(match v with | .agg cs=>cs.all ZnE|v=>ZnE v)=true→∀ k,cell1 v k=some (.t y)→y.flat=true:=fun v hv k hc=>by
  by_cases hv':∃ cs,v=.agg cs
  ·obtain ⟨cs,rfl⟩:=hv'
   exact List.all_eq_true.1 hv _ (List.mem_of_getElem? hc)
  ·have hn:∀ cs,v ≠ .agg cs:=fun cs e=>hv' ⟨cs,e⟩
   rw [Zcc hn] at hc
   split at hc
   ·have e1:=Option.some.inj hc
    subst e1
    exact hv
   ·cases hc
 by_cases hr:∃ vs,r=.tup vs
 ·obtain ⟨vs,rfl⟩:=hr
  obtain ⟨v,h1,h2⟩:=Zcp h
  exact key v (List.all_eq_true.1 hp v (List.mem_of_getElem? h1)) k h2
 ·have hn:∀ vs,r ≠ .tup vs:=fun vs e=>hr ⟨vs,e⟩
  refine key r ?_ k ((ZcD hn).1 h).2
  cases r<;>first|exact hp|exact absurd rfl (hn _)
theorem OpS.call_any {P:Program} {B:Nat→Prop} {W:En} {o:Oper} {st:St} {KE:V→List (Nat×Nat×Ob)→Prop} {c:Call} {f:Operand} {g:FuncId} {aS:List V} {r:V} {ro:Bool} {site:Nat} (ho:o.op=.call c) (hc:c.callee=.value f) (hf:f=.func g) (hA:AC P g aS r)
  (hs:SeeA (look st.objs) (c.args.toList.map st.ev) aS) (hp:ZdG r=true∨(c.args.toList.map st.ev).all ZdX=true) (hsm':ro=true∨ZdY r=true) (hK:KE (imp2 ro (look st.objs) site r) (upd2 ro (look st.objs) site r)):OpS P B W o st KE:=by
 have hsm:ro=false→ZdY r=true:=fun h=>hsm'.resolve_left (by rw [h];decide)
 intro a w pl F hS next Q hn
 subst hf
 obtain ⟨⟨fn,h1,h2,h3⟩,hcall⟩:=hA
 have hrun:(execOp a.eval o).run P w=.ok (.enter g (c.args.toList.map a.eval).toArray) w:=by
  unfold execOp
  rw [ho]
  have he:a.eval (.func g)=.func (.func g) #[] #[]:=rfl
  have hb:fn.body ≠ none:=fun e=>by rw [e] at h2;cases h2
  have hnm:fn.name ≠ "runtime.NumGoroutine":=by simpa using h3
  have hm:Array.map a.eval c.args=(List.map a.eval c.args.toList).toArray:=by rw [← Array.toList_map,Array.toArray_toList]
  simp [resolve,hc,he,Deferred.ofValue,invoke,callFunc,h1,hb,hnm,hm]
 classical
 let Bx:Nat→Prop:=if ZdG r=true then (fun b=>Free B W.o (look st.objs) F w b∨∃ o y,look st.objs o=some y∧F o b) else Free B W.o (look st.objs) F w
 have hB1:∀ b,Free B W.o (look st.objs) F w b→Bx b:=fun b hb=>by
  show (if ZdG r=true then _ else _:Nat→Prop) b
  split
  ·exact .inl hb
  ·exact hb
 have hB2:∀ b,Bx b→b < w.heap.size:=fun b hb=>by
  have hb':(if ZdG r=true then (fun b=>Free B W.o (look st.objs) F w b∨∃ o y,look st.objs o=some y∧F o b) else Free B W.o (look st.objs) F w:Nat→Prop) b:=hb
  split at hb'
  ·rcases hb' with hb'|⟨o,y,h5,h6⟩
   ·exact hb'.2.1
   ·exact (hS.range o y b h5 h6).2
  ·exact hb'.2.1
 have hB3:∀ o,o ∈ (c.args.toList.map st.ev).flatMap Zp7→∀ y b,look st.objs o=some y→F o b→Bx b:=fun o ho y b h5 h6=>by
  rcases hp with hp|hp
  ·show (if ZdG r=true then _ else _:Nat→Prop) b
   rw [if_pos hp]
   exact .inr ⟨o,y,h5,h6⟩
  ·obtain ⟨v,h7,h8⟩:=List.mem_flatMap.1 ho
   have h9:=List.all_eq_true.1 hp v h7
   rw [Zmd h9] at h8
   cases h8
 have hargs:=hS.seeA hB1 c.args.toList aS hB3 hs
 unfold Oper.wp
 rw [hrun,Oper.upon_enter]
 refine (hcall w Bx _ hB2 hargs).mono ?_
 rintro e w' ⟨u,rfl,hbel,FF,hR,hrg,hdj⟩
 show next (a.put o.dst u) w'
 let Nw:Nat→Prop:=fun i=>∃ e b,(i,e,b) ∈ upd2 ro (look st.objs) site r
 have hmem:∀ i e b,(i,e,b) ∈ upd2 ro (look st.objs) site r↔_:=fun i e b=>Zea
 have hdec:∀ j k,k < 64→(site + j * 64 + k - site) / 64=j∧(site + j * 64 + k - site) % 64=k:=fun j k hk=>by omega
 have hlook:∀ i e b,(i,e,b) ∈ upd2 ro (look st.objs) site r→look (updl st.objs (upd2 ro (look st.objs) site r)) i=some (e,b):=fun i e b hi=>by
  refine Zd9 _ _ _ _ _ hi fun e' b' hi'=>?_
  obtain ⟨hro,j,k,fl,t,els,g1,rfl,g2,g3⟩:=(hmem _ _ _).1 hi
  obtain ⟨_,j',k',fl',t',els',g1',g0,g2',g3'⟩:=(hmem _ _ _).1 hi'
  have:=ZcQ (hsm hro) g1
  have:=ZcQ (hsm hro) g1'
  have hj:j=j':=by omega
  have hk:k=k':=by omega
  subst hj hk
  rw [g1] at g1'
  cases g1'
  exact ⟨g2'.trans g2.symm,g3'.trans g3.symm⟩
 obtain ⟨pl',F',hS',hpl,hgo,hfree,hsame⟩:=hS.news (w':=w') (objs':=updl st.objs (upd2 ro (look st.objs) site r)) (Nw:=Nw) (nv:=fun i=>celU u ((i - site) / 64) ((i - site) % 64)) (nF:=fun i=>FF ((i - site) / 64) ((i - site) % 64)) hbel
  (fun i hi=>Zcu _ _ _ fun e b he=>hi ⟨e,b,he⟩)
  (fun i ⟨e,b,he⟩=>by
   obtain ⟨_,j,k,fl,t,els,g1,rfl,g2,g3⟩:=(hmem _ _ _).1 he
   exact ⟨e,b,hlook _ e b he,fun ep0 ob0 h0=>by rw [g2];exact ZgQ h0,by rw [g2];exact ZeH _⟩)
  (fun i b _ hb=>hrg _ _ b hb)
  (fun i i' b ⟨e,ob,he⟩ ⟨e',ob',he'⟩ hne hb=>by
   obtain ⟨hro,j,k,fl,t,els,g1,rfl,g2,g3⟩:=(hmem _ _ _).1 he
   obtain ⟨_,j',k',fl',t',els',g1',rfl,g2',g3'⟩:=(hmem _ _ _).1 he'
   have hk:=ZcQ (hsm hro) g1
   have hk':=ZcQ (hsm hro) g1'
   refine hdj _ _ _ _ b ?_ hb
   rw [(hdec j k hk).1,(hdec j k hk).2,(hdec j' k' hk').1,(hdec j' k' hk').2]
   omega)
  (fun i ep ob ⟨e,b,he⟩ hi CC Rr=>by
   rw [hlook i e b he] at hi
   cases hi
   obtain ⟨hro,j,k,fl,t,els,g1,rfl,g2,rfl⟩:=(hmem _ _ _).1 he
   have hk:=ZcQ (hsm hro) g1
   have h5:=cellU hR g1
   refine .inl ⟨rfl,?_⟩
   show Ow _ _ _ (celU u ((site + j * 64 + k - site) / 64) ((site + j * 64 + k - site) % 64)) (FF ((site + j * 64 + k - site) / 64) ((site + j * 64 + k - site) % 64))
   rw [(hdec j k hk).1,(hdec j k hk).2]
   exact h5)
 have hv:C2 P w' (look (updl st.objs (upd2 ro (look st.objs) site r))) pl' (Free B W.o (look (updl st.objs (upd2 ro (look st.objs) site r))) F' w') (imp2 ro (look st.objs) site r) u:=by
  refine ZoD hR (fun j k y x hcell hrd=>?_) (fun j k fl e els hcell hro=>?_) (fun j k b hro hb=>?_)
  ·rcases hp with hp|hp
   ·exact hrd.flat (ZhR hp hcell)
   ·by_cases hpr:ZdG r=true
    ·exact hrd.flat (ZhR hpr hcell)
    ·refine hrd.mono (fun b hb=>?_) fun _ _=>rfl
     have hbx:Bx=Free B W.o (look st.objs) F w:=if_neg hpr
     rw [hbx] at hb
     exact hfree b hb.1 hb.2.1 fun i _=>hb.2.2 _ _
  ·have hm:(site + j * 64 + k,nep (look st.objs (site + j * 64 + k)),Ob.row fl true e els) ∈ upd2 ro (look st.objs) site r:=(hmem _ _ _).2 ⟨hro,j,k,fl,e,els,hcell,rfl,rfl,rfl⟩
   have hk:=ZcQ (hsm hro) hcell
   refine ⟨hlook _ _ _ hm,(hpl _ ⟨_,_,hm⟩).trans ?_⟩
   show celU u ((site + j * 64 + k - site) / 64) ((site + j * 64 + k - site) % 64)=_
   rw [(hdec j k hk).1,(hdec j k hk).2]
  ·have:=hrg j k b hb
   refine hfree b (.inr this.1) this.2 fun i ⟨e,ob,he⟩=>?_
   obtain ⟨h0,_⟩:=(hmem _ _ _).1 he
   rw [hro] at h0
   cases h0
 have h4:=hS'.put hv o.dst
 rw [← Zml] at h4
 refine hn _ _ _ _ _ _ h4 ?_ hK
 rw [Ze4]
 exact ⟨hgo.more,hgo.heap,fun i x b hi hno hf=>⟨by rw [hsame i fun ⟨e,ob,h⟩=>hno e ob h];exact hf,hbel.block b (hS.range i x b hi hf).2⟩⟩
def ZkL:V→Bool
 | .fr ..=>false
 | _=>true
theorem Zks {ro:Bool} {lk:Nat→Option (Nat×Ob)} {id:Nat} {v:V} (h:ZkL v=true):imp0 ro lk id v=v∧upd0 ro lk id v=[]:=by cases v<;>first|exact ⟨rfl,rfl⟩|cases h
theorem Zkv {ro:Bool} {lk:Nat→Option (Nat×Ob)}:∀ {cs:List V} {id:Nat},cs.all ZkL=true→impL ro lk id cs=cs∧updL ro lk id cs=[]
 | [],_,_=>⟨rfl,rfl⟩
 | v :: r,id,h=>by
  rw [List.all_cons,Bool.and_eq_true] at h
  obtain ⟨h1,h2⟩:=Zks (ro:=ro) (lk:=lk) (id:=id) h.1
  obtain ⟨h3,h4⟩:=Zkv (ro:=ro) (lk:=lk) (id:=id + 1) h.2
  exact ⟨by rw [impL,h1,h3],by rw [updL,h2,h4];rfl⟩
def ZoN:V→Bool
 | .agg cs=>cs.all ZkL
 | v=>ZkL v
theorem Zku {ro:Bool} {lk:Nat→Option (Nat×Ob)} {id:Nat} {v:V} (h:ZoN v=true):imp1 ro lk id v=v∧upd1 ro lk id v=[]:=by
 cases v with
 | agg cs =>
  obtain ⟨h1,h2⟩:=Zkv (ro:=ro) (lk:=lk) (id:=id) (cs:=cs) h
  exact ⟨congrArg V.agg h1,h2⟩
 | _ =>
  unfold ZoN at h
  have h':=Zks (ro:=ro) (lk:=lk) (id:=id) h
  exact h'
theorem ZiI {ro:Bool} {lk:Nat→Option (Nat×Ob)}:∀ {cs:List V} {id:Nat},cs.all ZoN=true→ZhF ro lk id cs=cs∧Zli ro lk id cs=[]
 | [],_,_=>⟨rfl,rfl⟩
 | v :: r,id,h=>by
  rw [List.all_cons,Bool.and_eq_true] at h
  obtain ⟨h1,h2⟩:=Zku (ro:=ro) (lk:=lk) (id:=id) h.1
  obtain ⟨h3,h4⟩:=ZiI (ro:=ro) (lk:=lk) (id:=id + 64) h.2
  exact ⟨by rw [ZhF,h1,h3],by rw [Zli,h2,h4];rfl⟩
def Zp0:V→Bool
 | .tup vs=>vs.all ZoN
 | v=>ZoN v
theorem ZoC {ro:Bool} {lk:Nat→Option (Nat×Ob)} {id:Nat} {v:V} (h:Zp0 v=true):imp2 ro lk id v=v∧upd2 ro lk id v=[]:=by
 cases v with
 | tup cs =>
  obtain ⟨h1,h2⟩:=ZiI (ro:=ro) (lk:=lk) (id:=id) (cs:=cs) h
  exact ⟨congrArg V.tup h1,h2⟩
 | _ =>
  unfold Zp0 at h
  have h':=Zku (ro:=ro) (lk:=lk) (id:=id) h
  exact h'
section
variable {P:Program} {B:Nat→Prop} {W:En} {o:Oper} {st:St} {KE:V→List (Nat×Nat×Ob)→Prop}
theorem pU7 {X:Prop} (r:X:=by first|omega|assumption|(simp;omega)|(simp [Zao];omega)):X:=r
theorem pU5 {X:Prop} (r:X:=by first|((repeat' (first|exact trivial|exact Or.inl rfl|exact ⟨_,_,_,_,rfl,rfl⟩|exact Or.inr ⟨rfl,_,_,rfl⟩|exact ⟨_,_,_,_,rfl,(by exact pU7),rfl⟩|refine And.intro ?_ ?_));done)|fail):X:=r
theorem pU21 {X:Prop} (r:X:=by first|exact .inl rfl|exact .inr rfl):X:=r
theorem Zaa {c:Call} {g:FuncId} {as_:List V} {r:V} (hA:AC P g as_ r) (hK:KE r []) (ho:o.op=.call c:=by exact rfl) (hc:c.callee=.value (.func g):=by exact rfl) (hs:SeeA (look st.objs) (c.args.toList.map st.ev) as_:=by exact pU5) (hn:Zp0 r=true:=by exact rfl) (hp:ZdG r=true∨(c.args.toList.map st.ev).all ZdX=true:=by exact pU21):OpS P B W o st KE:=by
 have hsm:ZdY r=true∨True:=.inr trivial
 obtain ⟨h1,h2⟩:=ZoC (ro:=true) (lk:=look st.objs) (id:=0) hn
 refine OpS.call_any (ro:=true) (site:=0) ho hc rfl hA hs hp (.inl rfl) ?_
 rw [h1,h2]
 exact hK
theorem OpS.call_new {c:Call} {g:FuncId} {aS:List V} {r v:V} {d:Nat} {us:List (Nat×Nat×Ob)} (ho:o.op=.call c) (hd:o.dst=some d) (hc:c.callee=.value (.func g)) (hA:AC P g aS r)
  (hs:SeeA (look st.objs) (c.args.toList.map st.ev) aS) (hp:ZdG r=true∨(c.args.toList.map st.ev).all ZdX=true) (hsm:ZdY r=true) (hv:imp2 false (look st.objs) (1000 * d) r=v) (hu:upd2 false (look st.objs) (1000 * d) r=us) (hK:KE v us):OpS P B W o st KE:=by
 subst hv hu
 exact OpS.call_any ho hc rfl hA hs hp (.inr hsm) hK
theorem Zc5 {c:Call} {g:FuncId} {as_:List V} {r v:V} (hA:AC P g as_ r) (hK:KE v []) (ho:o.op=.call c:=by exact rfl) (hc:c.callee=.value (.func g):=by exact rfl) (hs:SeeA (look st.objs) (c.args.toList.map st.ev) as_:=by exact pU5) (hp:ZdG r=true∨(c.args.toList.map st.ev).all ZdX=true:=by exact pU21) (hv:imp2 true (look st.objs) 0 r=v:=by exact rfl):OpS P B W o st KE:=by
 subst hv
 refine OpS.call_any (ro:=true) (site:=0) ho hc rfl hA hs hp (.inl rfl) ?_
 have:upd2 true (look st.objs) 0 r=[]:=by
  rw [List.eq_nil_iff_forall_not_mem]
  rintro ⟨i,e,b⟩ hm
  obtain ⟨h,_⟩:=Zea.1 hm
  cases h
 rw [this]
 exact hK
end
def aL (P:Program) (B:Nat→Prop) (W:En) (ops:Array Oper) (l:List Oper) (K:St→Prop) (st:St):Prop :=
 ∀ a w,Sim P B W st a w→∀ Q:Exit→Act→World→Prop,(∀ st' a' w',Sim P B W st' a' w'→K st'→Q .normal a' w')→wpList P ops Q l a w
section
variable {P:Program} {B:Nat→Prop} {W:En} {ops:Array Oper} {l:List Oper} {K:St→Prop} {st:St} {o:Oper}
theorem OpS.run {KE:V→List (Nat×Nat×Ob)→Prop} (h:OpS P B W o st KE) (a:Act) (w:World) (hs:Sim P B W st a w) (next:Act→World→Prop) (Q:Exit→Act→World→Prop) (hn:∀ v upd a' w',Sim P B W ((st.upds upd).put o.dst v) a' w'→KE v upd→next a' w'):o.wp P a w next Q:=by
 obtain ⟨pl,F,hs⟩:=hs
 exact h a w pl F hs next Q fun v upd a' w' pl' F' h1 _ h2=>hn v upd a' w' ⟨pl',F',h1⟩ h2
theorem aL.nil {st':St} (h0:st=st') (h:K st'):aL P B W ops [] K st:=fun a w hs Q hQ=>hQ st a w hs (h0▸h)
theorem aL.cons {d:Option Tmp} (hg:o.guard=none) (hd:o.dst=d) (h:OpS P B W o st fun v upd=>aL P B W ops l K ((st.upds upd).put d v)):aL P B W ops (o :: l) K st:=fun a w hs Q hQ=>by
 subst hd
 exact wpList_plain hg fun K' hK'=>h.run a w hs K' Q fun v upd a' w' hs' hk=>hK' _ _ (hk a' w' hs' Q hQ)
theorem Zgn {a:Act} {w:World} (hs:Sim P B W st a w) {j d:Nat} (hd:(ops[j]?).bind (·.dst)=some d) {b:Bool} (hv:st.ev (.tmp d)=.t (.bool b)):yielded ops a.tmps j=some b:=by
 obtain ⟨pl,F,hs⟩:=hs
 have h1:=hs.bool_at (x:=.tmp d) hv
 have h2:a.tmps.getD d undef=.bool b:=h1
 unfold yielded
 rw [hd]
 rw [Array.getD_eq_getD_getElem?] at h2
 cases h3:a.tmps[d]? with
 | none=>rw [h3] at h2;cases h2
 | some u=>rw [h3] at h2;simp only [Option.getD_some] at h2;subst h2;simp [h3]
theorem Zia {a:Act} {w:World} (hs:Sim P B W st a w) {j d:Nat} (hd:(ops[j]?).bind (·.dst)=some d) (hv:st.ev (.tmp d)=.lit undef):yielded ops a.tmps j=none:=by
 obtain ⟨pl,F,hs⟩:=hs
 have h1:=hs.ev (.tmp d)
 rw [hv] at h1
 have h2:a.tmps.getD d undef=undef:=h1
 unfold yielded
 rw [hd]
 rw [Array.getD_eq_getD_getElem?] at h2
 cases h3:a.tmps[d]? with
 | none=>simp [h3]
 | some u=>rw [h3] at h2;simp only [Option.getD_some] at h2;subst h2;simp [h3,undef]
theorem Sim.undef_ {a:Act} {w:World} (hs:Sim P B W st a w) (d:Option Tmp):Sim P B W (st.put d (.lit undef)) (a.put d undef) w:=by
 obtain ⟨pl,F,hs⟩:=hs
 exact ⟨pl,F,hs.put (v:=.lit undef) rfl d⟩
theorem aL.guard2 {j d:Nat} {want b:Bool} {dd:Option Tmp} (hg:o.guard=some (j,want)) (hdd:o.dst=dd) (hd:(ops[j]?).bind (·.dst)=some d) (hv:st.ev (.tmp d)=.t (.bool b))
  (h1:b=true→aL P B W ops (o :: l) K st) (h2:b=false→aL P B W ops (o :: l) K st):aL P B W ops (o :: l) K st:=by
 cases b
 ·exact h2 rfl
 ·exact h1 rfl
theorem aL.guard {j d:Nat} {want b:Bool} (hg:o.guard=some (j,want)) (hd:(ops[j]?).bind (·.dst)=some d) (hv:st.ev (.tmp d)=.t (.bool b))
  (h1:b=want→OpS P B W o st fun v upd=>aL P B W ops l K ((st.upds upd).put o.dst v)) (h2:b=(!want)→aL P B W ops l K (st.put o.dst (.lit undef))):aL P B W ops (o :: l) K st:=fun a w hs Q hQ=>by
 have hy:=Zgn hs hd hv
 unfold wpList
 by_cases hb:b=want
 ·subst hb
  rw [if_pos (by simp [Region.wanted,hg,hy])]
  exact .inl ((h1 rfl).run a w hs _ Q fun v upd a' w' hs' hk=>hk a' w' hs' Q hQ)
 ·rw [if_neg (by simp [Region.wanted,hg,hy,hb])]
  exact h2 (by cases b<;>cases want<;>simp_all) _ _ (hs.undef_ _) Q hQ
theorem aL.guard_d {j d:Nat} {want:Bool} {p:Prop} [Decidable p] {dd:Option Tmp} (hg:o.guard=some (j,want)) (hdd:o.dst=dd) (hd:(ops[j]?).bind (·.dst)=some d) (hv:st.ev (.tmp d)=.t (.bool (decide p)))
  (h1:p→aL P B W ops (o :: l) K st) (h2:¬ p→aL P B W ops (o :: l) K st):aL P B W ops (o :: l) K st:=by
 by_cases hp:p
 ·exact h1 hp
 ·exact h2 hp
theorem aL.guard_yes {j d:Nat} {want b:Bool} {dd:Option Tmp} (hg:o.guard=some (j,want)) (hdd:o.dst=dd) (hd:(ops[j]?).bind (·.dst)=some d) (hv:st.ev (.tmp d)=.t (.bool b)) (hb:b=want)
  (h1:OpS P B W o st fun v upd=>aL P B W ops l K ((st.upds upd).put dd v)):aL P B W ops (o :: l) K st:=by
 subst hdd
 exact aL.guard hg hd hv (fun _=>h1) fun h=>by subst hb;cases b<;>cases h
theorem aL.guard_no {j d:Nat} {want b:Bool} {dd:Option Tmp} (hg:o.guard=some (j,want)) (hdd:o.dst=dd) (hd:(ops[j]?).bind (·.dst)=some d) (hv:st.ev (.tmp d)=.t (.bool b)) (hb:b=!want)
  (h2:aL P B W ops l K (st.put dd (.lit undef))):aL P B W ops (o :: l) K st:=by
 subst hdd
 exact aL.guard hg hd hv (fun h=>by subst hb;cases want<;>cases h) fun _=>h2
theorem aL.guard_nt {j d:Nat} {b:Bool} {dd:Option Tmp} (hg:o.guard=some (j,true)) (hdd:o.dst=dd) (hd:(ops[j]?).bind (·.dst)=some d) (hv:st.ev (.tmp d)=.t (.bool b)) (hb:b=false)
  (h2:aL P B W ops l K (st.put dd (.lit undef))):aL P B W ops (o :: l) K st:=aL.guard_no hg hdd hd hv hb h2
theorem aL.guard_nf {j d:Nat} {b:Bool} {dd:Option Tmp} (hg:o.guard=some (j,false)) (hdd:o.dst=dd) (hd:(ops[j]?).bind (·.dst)=some d) (hv:st.ev (.tmp d)=.t (.bool b)) (hb:b=true)
  (h2:aL P B W ops l K (st.put dd (.lit undef))):aL P B W ops (o :: l) K st:=aL.guard_no hg hdd hd hv hb h2
theorem aL.guard_not {j d:Nat} {want:Bool} {dd:Option Tmp} (hg:o.guard=some (j,want)) (hdd:o.dst=dd) (hd:(ops[j]?).bind (·.dst)=some d) (hv:st.ev (.tmp d)=.lit undef)
  (h2:aL P B W ops l K (st.put dd (.lit undef))):aL P B W ops (o :: l) K st:=fun a w hs Q hQ=>by
 subst hdd
 have hy:=Zia hs hd hv
 unfold wpList
 rw [if_neg (by simp [Region.wanted,hg,hy])]
 exact h2 _ _ (hs.undef_ _) Q hQ
end
def aW (P:Program) (B:Nat→Prop) (W:En) (c:Code) (Q:Exit→St→Prop) (st:St):Prop:=∀ a w,Sim P B W st a w→c.wp P (fun e a w=>∃ st',Sim P B W st' a w∧Q e st') a w
def ZnW (next:St→Prop) (Q:Exit→St→Prop):Exit→St→Prop
 | .normal,st=>next st
 | e,st=>Q e st
def Zkc (id:Nat) (Q:Exit→St→Prop):Exit→St→Prop
 | .exit id',st=>match Nat.beq id' id with|true=>Q .normal st|false=>Q (.exit id') st
 | e,st=>Q e st
section
variable {P:Program} {B:Nat→Prop} {W:En} {Q:Exit→St→Prop} {st:St}
theorem aW.skip (h:Q .normal st):aW P B W .skip Q st:=fun a w hs=>wp_skip ⟨st,hs,h⟩
theorem aW.ret (h:Q .ret st):aW P B W .ret Q st:=fun a w hs=>wp_ret ⟨st,hs,h⟩
theorem aW.exit {id:Nat} (h:Q (.exit id) st):aW P B W (.exit id) Q st:=fun a w hs=>wp_exit ⟨st,hs,h⟩
theorem aW.seq {x y:Code} (h:aW P B W x (ZnW (aW P B W y Q) Q) st):aW P B W (.seq x y) Q st:=fun a w hs =>
 wp_seq (wp_mono (h a w hs) fun e a w ⟨st',hs',hq⟩=>by
  cases e with
  | normal=>exact hq a w hs'
  | _=>exact ⟨st',hs',hq⟩)
theorem aW.mono {c:Code} {Q':Exit→St→Prop} (h:aW P B W c Q st) (hq:∀ e st,Q e st→Q' e st):aW P B W c Q' st:=fun a w hs=>wp_mono (h a w hs) fun _ _ _ ⟨st',hs',hq'⟩=>⟨st',hs',hq _ _ hq'⟩
theorem aW.cond {c:Operand} {x y:Code} {b:Bool} (hc:st.ev c=.t (.bool b)) (h1:b=true→aW P B W x Q st) (h2:b=false→aW P B W y Q st):aW P B W (.cond c x y) Q st:=fun a w hs=>by
 obtain ⟨pl,F,hs'⟩:=hs
 have h3:=hs'.bool_at hc
 cases b
 ·exact wp_cond h3 (h2 rfl a w ⟨pl,F,hs'⟩)
 ·exact wp_cond h3 (h1 rfl a w ⟨pl,F,hs'⟩)
theorem pU0 {X:Prop} (r:X:=by first|with_reducible rfl|with_reducible assumption|exact notT (by with_reducible assumption)|exact notT (by with_reducible rfl)|exact notF (by with_reducible rfl)|exact notF (by with_reducible assumption)|exact notF (decide_eq_true rfl)|exact decide_eq_true rfl|exact decide_eq_true (by with_reducible assumption)|exact decide_eq_false (by with_reducible assumption)|exact decide_eq_true (by omega)|exact decide_eq_false (by omega)|exact notF (decide_eq_true (by omega))|exact notT (decide_eq_false (by omega))):X:=r
theorem q530b {c:Operand} {x y:Code} {b:Bool} (h1:aW P B W x Q st) (hc:st.ev c=.t (.bool b):=by exact rfl) (hb:b=true:=by exact pU0):aW P B W (.cond c x y) Q st:=aW.cond hc (fun _=>h1) fun h=>by rw [hb] at h;cases h
theorem q9fa3 {c:Operand} {x y:Code} {b:Bool} (h1:aW P B W y Q st) (hc:st.ev c=.t (.bool b):=by exact rfl) (hb:b=false:=by exact pU0):aW P B W (.cond c x y) Q st:=aW.cond hc (fun h=>by rw [hb] at h;cases h) fun _=>h1
theorem q163f {c:Operand} {x y:Code} {p:Prop} [Decidable p] (h1:p→aW P B W x Q st) (h2:¬ p→aW P B W y Q st) (hc:st.ev c=.t (.bool (decide p)):=by exact rfl):aW P B W (.cond c x y) Q st:=aW.cond hc (fun h=>h1 (of_decide_eq_true h)) fun h=>h2 (of_decide_eq_false h)
theorem aW.block {id:Nat} {c:Code} (h:aW P B W c (Zkc id Q) st):aW P B W (.block id c) Q st:=fun a w hs =>
 wp_block (wp_mono (h a w hs) fun e a w ⟨st',hs',hq⟩=>by
  cases e with
  | exit id' =>
   show if id'=id then _ else _
   have hq':match Nat.beq id' id with|true=>Q .normal st'|false=>Q (.exit id') st':=hq
   split
   ·rename_i h;subst h;rw [Nat.beq_refl] at hq';exact ⟨st',hs',hq'⟩
   ·rename_i h
    cases hb:Nat.beq id' id with
    | true=>exact absurd (Nat.eq_of_beq_eq_true hb) h
    | false=>rw [hb] at hq';exact ⟨st',hs',hq'⟩
  | _=>exact ⟨st',hs',hq⟩)
theorem aW.region {id:Nat} {l:List Oper} (h:aL P B W l.toArray l (Q .normal) st):aW P B W (.region id l.toArray false) Q st:=fun a w hs =>
 wp_region_lit (h a w hs _ fun st' a' w' hs' hq=>⟨st',hs',hq⟩)
def leT (n:Nat) (r:List (Nat×V)):List (Nat×V)→Prop
 | []=>True
 | (i,v) :: r'=>Zcm r i=v∧leT n r r'
theorem leT_at {n:Nat} {r:List (Nat×V)}:∀ {r':List (Nat×V)},leT n r r'→∀ i,Zcm r' i=.junk∨∃ v,(i,v) ∈ r'∧Zcm r' i=v∧Zcm r i=v
 | [],_,i=>.inl rfl
 | (j,v) :: r',h,i=>by
  rw [ZcH]
  by_cases hj:j=i
  ·subst hj
   rw [if_pos rfl]
   exact .inr ⟨v,by simp,rfl,h.1⟩
  ·rw [if_neg hj]
   rcases leT_at h.2 i with h1|⟨v',h1,h2⟩
   ·exact .inl h1
   ·exact .inr ⟨v',by simp [h1],h2⟩
def ids0:V→List Nat
 | .hnd o _=>[o]
 | .ptr o _ _ _=>[o]
 | .view o _ _ _=>[o]
 | _=>[]
def ids1:V→List Nat
 | .agg cs=>cs.flatMap ids0
 | v=>ids0 v
def ids2:V→List Nat
 | .tup vs=>vs.flatMap ids1
 | v=>ids1 v
def ZgB:Ob→List Nat
 | .box _ cs=>cs.flatMap ids0
 | .hole _ _ _ x=>ids0 x
 | _=>[]
structure Le (st st':St):Prop where
 n:st'.n=st.n
 tmps:∀ i,Zcm st'.tmps i=.junk∨∃ v,(i,v) ∈ st'.tmps∧Zcm st'.tmps i=v∧Zcm st.tmps i=v
 objs:∀ o x,look st'.objs o=some x→look st.objs o=some x
 closed:∀ o,(o ∈ st'.tmps.flatMap (fun p=>ids2 p.2)∨∃ i e ob,look st'.objs i=some (e,ob)∧o ∈ ZgB ob)→∃ x,look st'.objs o=some x
def leO (objs:List (Nat×Nat×Ob)):List (Nat×Nat×Ob)→Prop
 | []=>True
 | (o,e,b) :: r=>look objs o=some (e,b)∧leO objs r
theorem ZoJ {objs:List (Nat×Nat×Ob)}:∀ {l:List (Nat×Nat×Ob)},leO objs l→∀ o x,look l o=some x→look objs o=some x
 | [],_,o,x,h=>by cases h
 | (i,e,b) :: r,hl,o,x,h=>by
  rw [ZaB] at h
  split at h
  ·rename_i hi;subst hi;rw [← h];exact hl.1
  ·exact ZoJ hl.2 o x h
theorem Zbw:∀ {l:List (Nat×Nat×Ob)} {o:Nat} {x:Nat×Ob},look l o=some x→(o,x.1,x.2) ∈ l
 | [],_,_,h=>by cases h
 | (i,e,b) :: r,o,x,h=>by
  rw [ZaB] at h
  split at h
  ·rename_i hi;subst hi;cases h;simp
  ·simp [Zbw h]
theorem Zct:∀ {l:List (Nat×Nat×Ob)} {o:Nat},(l.map (·.1)).contains o=true→∃ x,look l o=some x
 | [],_,h=>by simp at h
 | (i,e,b) :: r,o,h=>by
  rw [ZaB]
  by_cases hi:i=o
  ·exact ⟨_,if_pos hi⟩
  ·rw [if_neg hi]
   refine Zct ?_
   simp only [List.map_cons,List.contains_cons,Bool.or_eq_true,beq_iff_eq] at h
   rcases h with h|h
   ·exact absurd h.symm hi
   ·exact h
def Zoz (st:St):List Nat:=st.tmps.flatMap (fun p=>ids2 p.2)++st.objs.flatMap (fun p=>ZgB p.2.2)
def Zfu (st:St):Bool:=(Zoz st).all fun o=>(st.objs.map (·.1)).contains o
theorem Le.of {st st':St} (hn:st'.n=st.n) (ht:leT st.n st.tmps st'.tmps) (ho:leO st.objs st'.objs) (hc:Zfu st'=true):Le st st' :=
 ⟨hn,leT_at ht,ZoJ ho,fun o h=>by
  have hm:o ∈ Zoz st':=by
   rcases h with h|⟨i,e,ob,h1,h2⟩
   ·exact List.mem_append_left _ h
   ·exact List.mem_append_right _ (List.mem_flatMap.2 ⟨_,Zbw h1,h2⟩)
  exact Zct (List.all_eq_true.1 hc o hm)⟩
section
variable {a:Act} {w:World} {lk lk':Nat→Option (Nat×Ob)} {pl:Nat→Value} {Fr Fr':Nat→Prop}
theorem C0.weak {v:V} {u:Value} (hF:∀ b,Fr b→Fr' b) (hl:∀ o ∈ ids0 v,lk' o=lk o) (h:C0 P w lk pl Fr v u):C0 P w lk' pl Fr' v u:=by
 cases v with
 | t x=>exact Rd.mono h hF fun _ _=>rfl
 | hnd o ep =>
  obtain ⟨h1,ep',ob,h2,h3⟩:=h
  exact ⟨h1,ep',ob,by rw [hl o (by simp [ids0])];exact h2,h3⟩
 | ptr o ep i off =>
  obtain ⟨h1,ep',ob,h2,h3⟩:=h
  exact ⟨h1,ep',ob,by rw [hl o (by simp [ids0])];exact h2,h3⟩
 | view o ep i n =>
  obtain ⟨h1,ep',ob,h2,h3⟩:=h
  exact ⟨h1,ep',ob,by rw [hl o (by simp [ids0])];exact h2,h3⟩
 | rptr cs off =>
  obtain ⟨ad,h1,h2⟩:=h
  refine ⟨ad,h1,fun j x hx=>?_⟩
  obtain ⟨h3,y,h4,h5⟩:=h2 j x hx
  exact ⟨hF _ h3,y,h4,h5.mono hF fun _ _=>rfl⟩
 | lit=>exact h
 | junk=>trivial
 | agg=>exact h
 | tup=>exact h
 | fr=>exact h
theorem C1.weak {v:V} {u:Value} (hF:∀ b,Fr b→Fr' b) (hl:∀ o ∈ ids1 v,lk' o=lk o) (h:C1 P w lk pl Fr v u):C1 P w lk' pl Fr' v u:=by
 cases v with
 | agg cs =>
  obtain ⟨us,h1,h2,h3⟩:=h
  exact ⟨us,h1,h2,fun k v x hv hx=>(h3 k v x hv hx).weak hF fun o ho=>hl o (List.mem_flatMap.2 ⟨v,List.mem_of_getElem? hv,ho⟩)⟩
 | _=>unfold C1 at h ⊢;exact C0.weak hF hl h
theorem C2.weak {v:V} {u:Value} (hF:∀ b,Fr b→Fr' b) (hl:∀ o ∈ ids2 v,lk' o=lk o) (h:C2 P w lk pl Fr v u):C2 P w lk' pl Fr' v u:=by
 cases v with
 | tup cs =>
  obtain ⟨us,h1,h2,h3⟩:=h
  exact ⟨us,h1,h2,fun k v x hv hx=>(h3 k v x hv hx).weak hF fun o ho=>hl o (List.mem_flatMap.2 ⟨v,List.mem_of_getElem? hv,ho⟩)⟩
 | _=>unfold C2 at h ⊢;exact C1.weak hF hl h
theorem ObR.goes_weak {P:Program} {CC CC':V→Value→Prop} {Rr Rr':T→Value→Prop} {v:Value} {F:Nat→Prop} {ob:Ob} (hC:∀ x u,(∀ i,i ∈ ids0 x→i ∈ ZgB ob)→CC x u→CC' x u) (hR:∀ x u,Rr x u→Rr' x u)
  (h:ObR P w CC Rr v F ob):ObR P w CC' Rr' v F ob:=by
 cases ob with
 | box ty cs =>
  obtain ⟨g,us,h1,h2,h3,h4,h5⟩:=h
  exact ⟨g,us,h1,h2,h3,h4,fun k x u hx hu=>hC _ _ (fun i hi=>List.mem_flatMap.2 ⟨x,List.mem_of_getElem? hx,hi⟩) (h5 k x u hx hu)⟩
 | row fl d e els =>
  rcases h with ⟨hd,h⟩|⟨hd,us,h1,h2,h3,h4,h5,h6⟩
  ·exact .inl ⟨hd,h⟩
  ·exact .inr ⟨hd,us,h1,h2,h3,h4,fun k x u hx hu=>hR _ _ (h5 k x u hx hu),h6⟩
 | hole e els q x =>
  obtain ⟨us,fs,h1,h2,h3,h4,h5,h6⟩:=h
  exact ⟨us,fs,h1,h2,h3,h4,fun u hu=>hC _ _ (fun i hi=>hi) (h5 u hu),h6⟩
 | gone=>exact h
theorem SimW.weak {st':St} {pl:Nat→Value} {F:Nat→Nat→Prop} (hs:SimW P B W st a w pl F) (h:Le st st'):SimW P B W st' a w pl F:=by
 have hF:∀ b,Free B W.o (look st.objs) F w b→Free B W.o (look st'.objs) F w b:=fun b hb=>⟨hb.1,hb.2.1,fun o x ho=>hb.2.2 o x (h.objs o x ho)⟩
 have hl:∀ o,(∃ x,look st'.objs o=some x)→look st'.objs o=look st.objs o:=fun o ⟨x,hx⟩=>by rw [hx,h.objs o x hx]
 refine ⟨hs.old,by rw [hs.size,h.n],hs.defers,hs.below,fun i hi=>?_,fun o ep ob ho=>?_,fun o x b ho hf=>hs.range o x b (h.objs o x ho) hf,fun o o' x x' b hne ho ho'=>hs.apart o o' x x' b hne (h.objs o x ho) (h.objs o' x' ho'),fun o ob0 h0 ep ob ho=>hs.hist o ob0 h0 ep ob (h.objs o _ ho)⟩
 ·rcases h.tmps i with h1|⟨v,h1,h2,h3⟩
  ·rw [h1];trivial
  ·rw [h2]
   have h4:=hs.tmps i (by rw [← h.n];exact hi)
   rw [h3] at h4
   exact h4.weak hF fun o ho=>hl o (h.closed o (.inl (List.mem_flatMap.2 ⟨(i,v),h1,ho⟩)))
 ·have h0:=hs.objs o ep ob (h.objs o _ ho)
  cases ob with
  | box ty cs =>
   obtain ⟨g,us,h1,h2,h3,h4,h5⟩:=h0
   exact ⟨g,us,h1,h2,h3,h4,fun k x u hx hu=>(h5 k x u hx hu).weak hF fun i hi=>hl i (h.closed i (.inr ⟨o,ep,_,ho,List.mem_flatMap.2 ⟨x,List.mem_of_getElem? hx,hi⟩⟩))⟩
  | row fl d e els=>exact h0.goes (fun _ _=>rfl) (CC':=fun _ _=>True) (fun _ _ _=>trivial) (fun _ _ hr=>hr.mono hF fun _ _=>rfl)
  | hole e els q x =>
   obtain ⟨us,fs,h1,h2,h3,h4,h5,h6⟩:=h0
   exact ⟨us,fs,h1,h2,h3,h4,fun u hu=>(h5 u hu).weak hF fun i hi=>hl i (h.closed i (.inr ⟨o,ep,_,ho,hi⟩)),h6⟩
  | gone=>exact h0
end
theorem Sim.weak {a:Act} {w:World} {st':St} (hs:Sim P B W st a w) (h:Le st st'):Sim P B W st' a w:=by
 obtain ⟨pl,F,hs⟩:=hs
 exact ⟨pl,F,hs.weak h⟩
theorem aW.loop {c:Code} {α:Type} (S:α→St) (I:α→Prop) (μ:α→Nat) (x0:α) (h0:I x0) (hst:Le st (S x0))
  (round:∀ x,I x→aW P B W c (ZnW (fun st'=>∃ x',I x'∧μ x' < μ x∧Le st' (S x')) Q) (S x)):aW P B W (.loop c) Q st:=fun a w hs=>by
 intro b k cs
 have key:∀ (n:Nat) (x:α),μ x=n→I x→∀ a w,Sim P B W (S x) a w →
   ∃ e a' w',(∃ st',Sim P B W st' a' w'∧Q e st')∧Arrives P (lone (b.at a (.code c :: .inLoop c :: k)) cs w) b k cs e a' w':=by
  intro n
  induction n using Nat.strongRecOn with
  | _ n ih =>
   intro x hx hI a w hS
   obtain ⟨e,a₁,w₁,⟨st',hs',hq⟩,harr⟩:=round x hI a w hS b (.inLoop c :: k) cs
   cases e with
   | normal =>
    obtain ⟨x',hI',hlt,hle⟩:=hq
    obtain ⟨e₂,a₂,w₂,hq₂,harr₂⟩:=ih (μ x') (hx▸hlt) x' rfl hI' a₁ w₁ (hs'.weak hle)
    exact ⟨e₂,a₂,w₂,hq₂,.of_steps (Steps.trans harr (.one step_inLoop)) harr₂⟩
   | exit id=>exact ⟨_,a₁,w₁,⟨st',hs',hq⟩,.pass (x:=.inLoop c) rfl (fun _ _=>.inl (by simp)) harr⟩
   | goto l=>exact ⟨_,a₁,w₁,⟨st',hs',hq⟩,.pass (x:=.inLoop c) rfl (fun _ _=>.inl (by simp)) harr⟩
   | ret=>exact ⟨_,a₁,w₁,⟨st',hs',hq⟩,.pass (x:=.inLoop c) rfl (fun _ _=>.inl (by simp)) harr⟩
   | panic ch=>exact ⟨_,a₁,w₁,⟨st',hs',hq⟩,.pass (x:=.inLoop c) rfl (fun _ _=>.inl (by simp)) harr⟩
   | outgrown=>exact ⟨_,a₁,w₁,⟨st',hs',hq⟩,.pass (x:=.inLoop c) rfl (fun _ _=>.inl (by simp)) harr⟩
 obtain ⟨e,a',w',hq,harr⟩:=key _ x0 rfl h0 a w (hs.weak hst)
 exact ⟨e,a',w',hq,.of_steps (.one step_loop) harr⟩
theorem aW.loopF {c:Code} {α:Type} {n:Nat} (hn:st.n=n) (var:α→List (Nat×V)) (fx:List (Nat×V)) (ob:α→List (Nat×Nat×Ob)) (fo:List (Nat×Nat×Ob)) (I:α→Prop) (μ:α→Nat) (x0:α) (h0:I x0) (hst:Le st ⟨n,var x0++fx,ob x0++fo⟩)
  (round:∀ x,I x→aW P B W c (ZnW (fun st'=>∃ x',I x'∧μ x' < μ x∧Le st' ⟨n,var x'++fx,ob x'++fo⟩) Q) ⟨n,var x++fx,ob x++fo⟩):aW P B W (.loop c) Q st :=
 aW.loop (fun x=>⟨n,var x++fx,ob x++fo⟩) I μ x0 h0 hst round
end
def Giv0 (lk:Nat→Option (Nat×Ob)):V→V→Prop
 | .t x,.t y=>x=y∨(x=.nil∧∃ fl e,y=.lst fl e [])
 | .t x,.fr _ _ els=>x=.nil∧els=[]
 | .hnd o ep,.fr fl e els=>lk o=some (ep,.row fl true e els)
 | .hnd o ep,.t y=>∃ fl d e els,lk o=some (ep,.row fl d e els)∧y=.lst fl e els
 | .lit v,.lit v'=>v=v'
 | _,_=>False
def GivL (lk:Nat→Option (Nat×Ob)):List V→List V→Prop
 | [],[]=>True
 | c :: cs,d :: ds=>Giv0 lk c d∧GivL lk cs ds
 | _,_=>False
def Giv1 (lk:Nat→Option (Nat×Ob)):V→V→Prop
 | .agg cs,.agg ds=>GivL lk cs ds
 | v,r=>Giv0 lk v r
def Giv1L (lk:Nat→Option (Nat×Ob)):List V→List V→Prop
 | [],[]=>True
 | c :: cs,d :: ds=>Giv1 lk c d∧Giv1L lk cs ds
 | _,_=>False
def Giv2 (lk:Nat→Option (Nat×Ob)):V→V→Prop
 | .tup cs,.tup ds=>Giv1L lk cs ds
 | v,r=>Giv1 lk v r
theorem Zox {lk:Nat→Option (Nat×Ob)}:∀ {cs ds:List V},GivL lk cs ds→cs.length=ds.length∧∀ (k:Nat) (c d:V),cs[k]?=some c→ds[k]?=some d→Giv0 lk c d
 | [],[],_=>⟨rfl,fun k c d h=>by simp at h⟩
 | [],_ :: _,h=>h.elim
 | _ :: _,[],h=>h.elim
 | c :: cs,d :: ds,h=>by
  have ih:=Zox h.2
  refine ⟨by simp [ih.1],fun k x y hx hy=>?_⟩
  cases k with
  | zero=>simp at hx hy;subst hx hy;exact h.1
  | succ k=>exact ih.2 k x y (by simpa using hx) (by simpa using hy)
theorem ZmC {lk:Nat→Option (Nat×Ob)}:∀ {cs ds:List V},Giv1L lk cs ds→cs.length=ds.length∧∀ (k:Nat) (c d:V),cs[k]?=some c→ds[k]?=some d→Giv1 lk c d
 | [],[],_=>⟨rfl,fun k c d h=>by simp at h⟩
 | [],_ :: _,h=>h.elim
 | _ :: _,[],h=>h.elim
 | c :: cs,d :: ds,h=>by
  have ih:=ZmC h.2
  refine ⟨by simp [ih.1],fun k x y hx hy=>?_⟩
  cases k with
  | zero=>simp at hx hy;subst hx hy;exact h.1
  | succ k=>exact ih.2 k x y (by simpa using hx) (by simpa using hy)
theorem ZcI {α β:Type} {f:α→List β}:∀ {l:List α} (_:(l.flatMap f).Nodup) {i j:Nat} {a b:α} {x:β},l[i]?=some a→l[j]?=some b→x ∈ f a→x ∈ f b→i=j
 | [],_,i,_,a,_,_,h,_,_,_=>by simp at h
 | c :: r,hn,i,j,a,b,x,hi,hj,ha,hb=>by
  rw [List.flatMap_cons,List.nodup_append] at hn
  obtain ⟨_,h2,h3⟩:=hn
  cases i with
  | zero =>
   cases j with
   | zero=>rfl
   | succ j =>
    simp at hi hj
    subst hi
    exact absurd rfl (h3 x ha x (List.mem_flatMap.2 ⟨b,List.mem_of_getElem? hj,hb⟩))
  | succ i =>
   cases j with
   | zero =>
    simp at hi hj
    subst hj
    exact absurd rfl (h3 x hb x (List.mem_flatMap.2 ⟨a,List.mem_of_getElem? hi,ha⟩))
   | succ j=>exact congrArg (· + 1) (ZcI h2 (i:=i) (j:=j) (by simpa using hi) (by simpa using hj) ha hb)
theorem ZfV {v:V} {k:Nat} {o ep:Nat} (h:cell1 v k=some (.hnd o ep)):o ∈ ids1 v:=by
 by_cases hv:∃ cs,v=.agg cs
 ·obtain ⟨cs,rfl⟩:=hv
  exact List.mem_flatMap.2 ⟨_,List.mem_of_getElem? h,by simp [ids0]⟩
 ·rw [Zcc (v:=v) (fun cs e=>hv ⟨cs,e⟩)] at h
  split at h
  ·have e1:=Option.some.inj h
   subst e1
   simp [ids1,ids0]
  ·cases h
theorem ZiD {v:V} (hn:(ids1 v).Nodup) {k k' o ep ep':Nat} (h:cell1 v k=some (.hnd o ep)) (h':cell1 v k'=some (.hnd o ep')):k=k':=by
 by_cases hv:∃ cs,v=.agg cs
 ·obtain ⟨cs,rfl⟩:=hv
  exact ZcI (f:=ids0) (x:=o) hn h h' (by simp [ids0]) (by simp [ids0])
 ·have hne:∀ cs,v ≠ .agg cs:=fun cs e=>hv ⟨cs,e⟩
  rw [Zcc hne] at h h'
  split at h
  ·split at h'
   ·omega
   ·cases h'
  ·cases h
theorem ZiE {v:V} (hn:(ids2 v).Nodup) {j k j' k' o ep ep':Nat} (h:ZbG v j k=some (.hnd o ep)) (h':ZbG v j' k'=some (.hnd o ep')):j=j'∧k=k':=by
 by_cases hr:∃ vs,v=.tup vs
 ·obtain ⟨vs,rfl⟩:=hr
  obtain ⟨x,h1,h2⟩:=Zcp h
  obtain ⟨x',h1',h2'⟩:=Zcp h'
  have e:=ZcI (f:=ids1) hn h1 h1' (ZfV h2) (ZfV h2')
  subst e
  rw [h1] at h1'
  cases h1'
  refine ⟨rfl,ZiD ?_ h2 h2'⟩
  have hm:=List.mem_of_getElem? h1
  have hn':(vs.flatMap ids1).Nodup:=hn
  obtain ⟨l1,l2,rfl⟩:=List.append_of_mem hm
  rw [List.flatMap_append,List.nodup_append,List.flatMap_cons,List.nodup_append] at hn'
  exact hn'.2.1.1
 ·have hne:∀ vs,v ≠ .tup vs:=fun vs e=>hr ⟨vs,e⟩
  obtain ⟨rfl,h2⟩:=(ZcD hne).1 h
  obtain ⟨rfl,h2'⟩:=(ZcD hne).1 h'
  have e0:ids2 v=ids1 v:=by cases v<;>first|rfl|exact absurd rfl (hne _)
  rw [e0] at hn
  exact ⟨rfl,ZiD hn h2 h2'⟩
section
variable {P:Program} {B:Nat→Prop} {W:En} {st:St} {a:Act} {w:World} {pl:Nat→Value} {F:Nat→Nat→Prop}
def resF (F:Nat→Nat→Prop):Option V→Option V→Nat→Prop
 | some (.hnd o _),some (.fr ..),b=>F o b
 | _,_,_=>False
theorem SimW.giv0 (h:SimW P B W st a w pl F) {v r:V} {u:Value} {FF:Nat→Prop} {Fr:Nat→Prop} (hv:C0 P w (look st.objs) pl (Free B W.o (look st.objs) F w) v u) (hg:Giv0 (look st.objs) v r) (hFF:∀ b,FF b↔resF F (some v) (some r) b)
  (h1:∀ b,Free B W.o (look st.objs) F w b→Fr b) (h2:∀ o ep y x b,v=.hnd o ep→r=.t y→look st.objs o=some x→F o b→Fr b):R0 P w Fr FF r u:=by
 cases v with
 | t x =>
  cases r with
  | t y =>
   rcases hg with rfl|⟨rfl,fl,e,rfl⟩
   ·exact Rd.mono hv h1 fun _ _=>rfl
   ·have hv':Rd P w (Free B W.o (look st.objs) F w) .nil u:=hv
    cases hv'
    exact .lst (els:=[]) [] (Nat.le_refl _) (by simp [maxLen]) (by simp) (by simp) rfl (fun h=>absurd rfl h) (fun k x u h=>by simp at h)
  | fr fl e els =>
   obtain ⟨rfl,rfl⟩:=hg
   have hv':Rd P w (Free B W.o (look st.objs) F w) .nil u:=hv
   cases hv'
   exact .lst [] (fun _ _=>False) (ZbZ.nil _ _ _) (by simp) (by simp) rfl (fun k x u h=>by simp at h) (fun _ _ _ _ h=>h.elim) (fun _ _ h=>h.elim) fun b=>by rw [hFF];simp [resF,Value.ownBlock]
  | _=>exact hg.elim
 | hnd o ep =>
  cases r with
  | t y =>
   obtain ⟨fl,d,e,els,hl,rfl⟩:=hg
   obtain ⟨_,ep',ob,h2',h3,h4⟩:=hv
   rw [hl] at h2'
   cases h2'
   have hu:=(h4 rfl).2
   obtain ⟨us,hp⟩:=ZbX (h.objs o _ _ hl)
   obtain ⟨A,c,g1,g2,g3,g4⟩:=hp.slice
   have hF:∀ b,F o b→Fr b:=fun b hb=>h2 o ep _ _ b rfl rfl hl hb
   rw [hu,g1]
   refine Rd.lst us g2 g3 hp.uni hp.flt hp.len (fun hn=>?_) fun k x u hx hv=>(hp.rd k x u hx hv).mono (fun b hb=>?_) fun _ _=>rfl
   ·obtain ⟨g,off,rfl,g5,_,g6⟩:=g4 hn
    exact ⟨_,rfl,hF _ (hp.top _ g5),fun k u hk=>by rw [ZaS];exact g6 k u hk⟩
   ·rcases hb with hb|hb
    ·exact hF b hb
    ·exact h1 _ hb
  | fr fl e els =>
   obtain ⟨_,ep',ob,h2',h3,h4⟩:=hv
   have hl:look st.objs o=some (ep,.row fl true e els):=hg
   rw [hl] at h2'
   cases h2'
   have hu:=(h4 rfl).2
   rcases h.objs o _ _ hl with ⟨_,h5⟩|⟨h5,_⟩
   ·have e1:FF=F o:=funext fun b=>propext (hFF b)
    show Ow _ _ _ _ FF
    rw [e1,hu]
    exact h5
   ·cases h5
  | _=>exact hg.elim
 | lit x =>
  cases r with
  | lit y=>cases hg;exact hv
  | _=>exact hg.elim
 | _=>cases r<;>exact hg.elim
theorem SimW.giv_x (h:SimW P B W st a w pl F) {v r:V} {u:Value} (hv:C2 P w (look st.objs) pl (Free B W.o (look st.objs) F w) v u) (hg:Giv2 (look st.objs) v r) (hn:(ids2 v).Nodup) {X:Nat→Prop} (hX:∀ o,o ∈ ids2 v→¬ X o) :
  ∃ FF:Nat→Nat→Nat→Prop,R2 P w (fun b=>(B b∨W.o b)∧b < w.heap.size∧(∀ o x,X o→look st.objs o=some x→¬ F o b)∧∀ j k,¬ FF j k b) FF r u∧(∀ j k b,FF j k b→W.o b∧b < w.heap.size) ∧
  (∀ j k j' k' b,(j ≠ j'∨k ≠ k')→FF j k b→¬ FF j' k' b)∧(∀ o x j k b,X o→look st.objs o=some x→FF j k b→¬ F o b)∧∀ j k b,FF j k b→∃ o x,look st.objs o=some x∧F o b:=by
 let FF:Nat→Nat→Nat→Prop:=fun j k=>resF F (ZbG v j k) (ZbG r j k)
 have hFF:∀ j k b,FF j k b→∃ o ep fl e els,ZbG v j k=some (.hnd o ep)∧ZbG r j k=some (.fr fl e els)∧F o b:=fun j k b hb=>by
  have hb':resF F (ZbG v j k) (ZbG r j k) b:=hb
  generalize ZbG v j k=x at *
  generalize ZbG r j k=y at *
  unfold resF at hb'
  split at hb'
  ·exact ⟨_,_,_,_,_,rfl,rfl,hb'⟩
  ·exact hb'.elim
 have hlive:∀ j k o ep,ZbG v j k=some (.hnd o ep)→∃ x,look st.objs o=some x:=fun j k o ep hc=>by
  have h0:∀ {v:V} {u:Value},C1 P w (look st.objs) pl (Free B W.o (look st.objs) F w) v u→cell1 v k=some (.hnd o ep)→∃ x,look st.objs o=some x:=fun {v u} h1 h2=>by
   by_cases hv':∃ cs,v=.agg cs
   ·obtain ⟨cs,rfl⟩:=hv'
    obtain ⟨us,_,g1,g2⟩:=h1
    have hlt:k < us.length:=by rw [g1];exact (List.getElem?_eq_some_iff.1 h2).1
    obtain ⟨_,ep',ob,g3,_⟩:=g2 k _ _ h2 (List.getElem?_eq_getElem hlt)
    exact ⟨_,g3⟩
   ·rw [Zcc (v:=v) (fun cs e=>hv' ⟨cs,e⟩)] at h2
    split at h2
    ·have e1:=Option.some.inj h2
     subst e1
     obtain ⟨_,ep',ob,g3,_⟩:C0 P w (look st.objs) pl (Free B W.o (look st.objs) F w) (.hnd o ep) u:=h1
     exact ⟨_,g3⟩
    ·cases h2
  by_cases hr:∃ vs,v=.tup vs
  ·obtain ⟨vs,rfl⟩:=hr
   obtain ⟨x,h1,h2⟩:=Zcp hc
   obtain ⟨us,_,g1,g2⟩:=hv
   have hlt:j < us.length:=by rw [g1];exact (List.getElem?_eq_some_iff.1 h1).1
   exact h0 (g2 j x _ h1 (List.getElem?_eq_getElem hlt)) h2
  ·have hne:∀ vs,v ≠ .tup vs:=fun vs e=>hr ⟨vs,e⟩
   obtain ⟨rfl,h2⟩:=(ZcD hne).1 hc
   exact h0 (u:=u) (by cases v<;>first|exact hv|exact absurd rfl (hne _)) h2
 have hids:∀ j k o ep,ZbG v j k=some (.hnd o ep)→o ∈ ids2 v:=fun j k o ep hc=>by
  by_cases hr:∃ vs,v=.tup vs
  ·obtain ⟨vs,rfl⟩:=hr
   obtain ⟨x,h1,h2⟩:=Zcp hc
   exact List.mem_flatMap.2 ⟨x,List.mem_of_getElem? h1,ZfV h2⟩
  ·have hne:∀ vs,v ≠ .tup vs:=fun vs e=>hr ⟨vs,e⟩
   have e0:ids2 v=ids1 v:=by cases v<;>first|rfl|exact absurd rfl (hne _)
   rw [e0]
   exact ZfV ((ZcD hne).1 hc).2
 let Fr:Nat→Prop:=fun b=>(B b∨W.o b)∧b < w.heap.size∧(∀ o x,X o→look st.objs o=some x→¬ F o b)∧∀ j k,¬ FF j k b
 have h1:∀ b,Free B W.o (look st.objs) F w b→Fr b:=fun b hb=>⟨hb.1,hb.2.1,fun o x _ ho hf=>hb.2.2 o x ho hf,fun j k hf=>by
  obtain ⟨o,ep,fl,e,els,g1,g2,g3⟩:=hFF j k b hf
  obtain ⟨x,hx⟩:=hlive j k o ep g1
  exact hb.2.2 o x hx g3⟩
 have h2:∀ j k o ep y x b,ZbG v j k=some (.hnd o ep)→ZbG r j k=some (.t y)→look st.objs o=some x→F o b→Fr b:=fun j k o ep y x b hc hr hl hb=>by
  have hrg:=h.range o x b hl hb
  refine ⟨.inr hrg.1,hrg.2,fun o' x' hXo hl' hf=>?_,fun j' k' hf=>?_⟩
  ·exact h.apart o o' _ _ b (fun e=>hX o (hids j k o ep hc) (by rw [e];exact hXo)) hl hl' hb hf
  obtain ⟨o',ep',fl,e,els,g1,g2,g3⟩:=hFF j' k' b hf
  by_cases he:o=o'
  ·subst he
   obtain ⟨rfl,rfl⟩:=ZiE hn hc g1
   rw [hr] at g2
   cases g2
  ·obtain ⟨x',hx'⟩:=hlive j' k' o' ep' g1
   exact h.apart o o' _ _ b he hl hx' hb g3
 have key1:∀ {j:Nat} {x y:V} {z:Value},(∀ k,ZbG v j k=cell1 x k)→(∀ k,ZbG r j k=cell1 y k)→C1 P w (look st.objs) pl (Free B W.o (look st.objs) F w) x z→Giv1 (look st.objs) x y→R1 P w Fr (FF j) y z:=fun {j x y z} e1 e2 hc hg=>by
  by_cases hx:∃ cs,x=.agg cs
  ·obtain ⟨cs,rfl⟩:=hx
   cases y with
   | agg ds =>
    obtain ⟨us,rfl,g1,g2⟩:=hc
    obtain ⟨g3,g4⟩:=Zox hg
    refine ⟨us,rfl,by omega,fun k d z hd hz=>?_⟩
    have hlt:k < cs.length:=by rw [g3];exact (List.getElem?_eq_some_iff.1 hd).1
    have hcell:cs[k]?=some cs[k]:=List.getElem?_eq_getElem hlt
    have e1k:ZbG v j k=some cs[k]:=(e1 k).trans hcell
    have e2k:ZbG r j k=some d:=(e2 k).trans hd
    exact h.giv0 (g2 k _ _ hcell hz) (g4 k _ _ hcell hd) (fun b=>by show resF F (ZbG v j k) (ZbG r j k) b↔_;rw [e1k,e2k]) h1 fun o ep t x b e3 e4=>by
     rw [e3] at e1k
     rw [e4] at e2k
     exact h2 j k o ep t x b e1k e2k
   | _=>exact hg.elim
  ·have hnx:∀ cs,x ≠ .agg cs:=fun cs e=>hx ⟨cs,e⟩
   have hg0:Giv0 (look st.objs) x y:=by cases x<;>first|exact hg|exact absurd rfl (hnx _)
   have hny:∀ cs,y ≠ .agg cs:=fun cs e=>by subst e;cases x<;>exact hg0
   have hc0:C0 P w (look st.objs) pl (Free B W.o (look st.objs) F w) x z:=by cases x<;>first|exact hc|exact absurd rfl (hnx _)
   have e1k:ZbG v j 0=some x:=by rw [e1,Zcc hnx,if_pos rfl]
   have e2k:ZbG r j 0=some y:=by rw [e2,Zcc hny,if_pos rfl]
   have h3:=h.giv0 (FF:=FF j 0) (Fr:=Fr) hc0 hg0 (fun b=>by show resF F (ZbG v j 0) (ZbG r j 0) b↔_;rw [e1k,e2k]) h1 fun o ep t x b e3 e4=>by
     rw [e3] at e1k
     rw [e4] at e2k
     exact h2 j 0 o ep t x b e1k e2k
   cases y<;>first|exact h3|exact absurd rfl (hny _)
 refine ⟨FF,?_,fun j k b hf=>?_,fun j k j' k' b hne hf hf'=>?_,fun o' x' j k b hXo hl' hf hf'=>?_,fun j k b hf=>?_⟩
 ·by_cases hr:∃ vs,v=.tup vs
  ·obtain ⟨vs,rfl⟩:=hr
   cases r with
   | tup ds =>
    obtain ⟨us,rfl,g1,g2⟩:=hv
    obtain ⟨g3,g4⟩:=ZmC hg
    refine ⟨us,rfl,by omega,fun j d z hd hz=>?_⟩
    have hlt:j < vs.length:=by rw [g3];exact (List.getElem?_eq_some_iff.1 hd).1
    have hcell:vs[j]?=some vs[j]:=List.getElem?_eq_getElem hlt
    have hcr:∀ {l:List V} {x:V},l[j]?=some x→∀ k,ZbG (.tup l) j k=cell1 x k:=fun {l x} hx k=>by
     cases hc:cell1 x k with
     | some y=>exact ZeZ hx hc
     | none =>
      cases hc':ZbG (.tup l) j k with
      | none=>rfl
      | some y =>
       obtain ⟨x',h5,h6⟩:=Zcp hc'
       rw [hx] at h5
       cases h5
       rw [hc] at h6
       cases h6
    exact key1 (hcr hcell) (hcr hd) (g2 j _ _ hcell hz) (g4 j _ _ hcell hd)
   | _=>exact hg.elim
  ·have hnv:∀ vs,v ≠ .tup vs:=fun vs e=>hr ⟨vs,e⟩
   have hg1:Giv1 (look st.objs) v r:=by cases v<;>first|exact hg|exact absurd rfl (hnv _)
   have hnr:∀ vs,r ≠ .tup vs:=fun vs e=>by subst e;cases v<;>exact hg1
   have hc1:C1 P w (look st.objs) pl (Free B W.o (look st.objs) F w) v u:=by cases v<;>first|exact hv|exact absurd rfl (hnv _)
   have hcr:∀ {x:V} (_:∀ vs,x ≠ .tup vs) (k:Nat),ZbG x 0 k=cell1 x k:=fun {x} hx k=>by
    cases hc:cell1 x k with
    | some y=>exact (ZcD hx).2 ⟨rfl,hc⟩
    | none =>
     cases hc':ZbG x 0 k with
     | none=>rfl
     | some y =>
      have:=((ZcD hx).1 hc').2
      rw [hc] at this
      cases this
   have h3:=key1 (j:=0) (hcr hnv) (hcr hnr) hc1 hg1
   cases r<;>first|exact h3|exact absurd rfl (hnr _)
 ·obtain ⟨o,ep,fl,e,els,g1,g2,g3⟩:=hFF j k b hf
  obtain ⟨x,hx⟩:=hlive j k o ep g1
  exact h.range o x b hx g3
 ·obtain ⟨o,ep,fl,e,els,g1,g2,g3⟩:=hFF j k b hf
  obtain ⟨o',ep',fl',e',els',g1',g2',g3'⟩:=hFF j' k' b hf'
  by_cases he:o=o'
  ·subst he
   obtain ⟨rfl,rfl⟩:=ZiE hn g1 g1'
   omega
  ·obtain ⟨x,hx⟩:=hlive j k o ep g1
   obtain ⟨x',hx'⟩:=hlive j' k' o' ep' g1'
   exact h.apart o o' _ _ b he hx hx' g3 g3'
 ·obtain ⟨o,ep,fl,e,els,g1,g2,g3⟩:=hFF j k b hf
  obtain ⟨x,hx⟩:=hlive j k o ep g1
  exact h.apart o o' _ _ b (fun e=>hX o (hids j k o ep g1) (by rw [e];exact hXo)) hx hl' g3 hf'
 ·obtain ⟨o,ep,fl,e,els,g1,g2,g3⟩:=hFF j k b hf
  obtain ⟨x,hx⟩:=hlive j k o ep g1
  exact ⟨o,x,hx,g3⟩
end
def res1 (P:Program) (st:St):ResultVar→Option V
 | .tmp t=>some (st.ev (.tmp t))
 | .cell p ty=>match st.ev (.tmp p),Zac P ty with
  | .ptr i ep 0 off,some y=>(match look st.objs i with|some (e,.box _ cs)=>if e=ep then Zdp y.k.agg y.size cs off else none|_=>none)
  | _,_=>none
def resL (P:Program) (st:St):List ResultVar→Option (List V)
 | []=>some []
 | x :: r=>match res1 P st x,resL P st r with|some v,some vs=>some (v :: vs)|_,_=>none
def resV (P:Program) (st:St) (l:List ResultVar):Option V :=
 match resL P st l with
 | some [v]=>some v
 | some vs=>some (.tup vs)
 | none=>none
def Zkb:V→Bool
 | .tup _=>false
 | _=>true
section
variable {P:Program} {B:Nat→Prop} {W:En} {st:St} {a:Act} {w:World} {pl:Nat→Value} {F:Nat→Nat→Prop}
def resM (tmps:Array Value):ResultVar→Sem Value
 | .tmp t=>pure (tmps.getD t undef)
 | .cell a t=>do loadVar t (← asAddr (tmps.getD a undef))
theorem SimW.r1 (h:SimW P B W st a w pl F) {x:ResultVar} {v:V} (hx:res1 P st x=some v):∃ u,(resM a.tmps x).run P w=.ok u w∧C2 P w (look st.objs) pl (Free B W.o (look st.objs) F w) v u:=by
 cases x with
 | tmp t =>
  cases hx
  exact ⟨_,rfl,h.ev (.tmp t)⟩
 | cell p ty =>
  simp only [res1] at hx
  split at hx
  ·rename_i i ep off y hp hy
   split at hx
   ·rename_i e bt cs hl
    split at hx
    ·rename_i he
     subst he
     have h1:=h.ev (.tmp p)
     rw [hp] at h1
     obtain ⟨_,ep',ob,h2,h3,h4⟩:C0 P w (look st.objs) pl (Free B W.o (look st.objs) F w) (.ptr i e 0 off) (a.eval (.tmp p)):=h1
     rw [hl] at h2
     cases h2
     obtain ⟨g,bb,hg,hu⟩:=h4 rfl
     obtain ⟨g',us,h5,h6,h7,h8⟩:=h.objs i _ _ hl
     rw [h5] at hg
     simp only [blk,Option.some.injEq,Prod.mk.injEq] at hg
     obtain ⟨rfl,rfl⟩:=hg
     obtain ⟨u,h9,h10⟩:=Zcw hy hx ⟨g',0 + (0 * esz P (.box bt cs) + off),none⟩ (lk:=look st.objs) (pl:=pl) (Fr:=Free B W.o (look st.objs) F w) (w:=w) fun j z hz=>by
      obtain ⟨u,hu1,hu2⟩:=Pw.at_ (R:=C0 P w (look st.objs) pl (Free B W.o (look st.objs) F w)) ⟨h8.1,h8.2⟩ hz
      refine ⟨u,?_,hu2⟩
      rw [ZaS,cell_of_row w g' _ _ _ _ h7]
      simpa using hu1
     refine ⟨u,?_,h10⟩
     have hu':a.tmps.getD p undef=.pointer (some ⟨g',0 + (0 * esz P (.box bt cs) + off),none⟩):=hu
     show (do loadVar ty (← asAddr (a.tmps.getD p undef)):Sem Value).run P w=_
     rw [hu']
     simpa [asAddr] using h9
    ·cases hx
   ·cases hx
  ·cases hx
theorem SimW.rL (h:SimW P B W st a w pl F):∀ {l:List ResultVar} {vs:List V},resL P st l=some vs→∃ us,(l.mapM (resM a.tmps)).run P w=.ok us w∧Pw (C2 P w (look st.objs) pl (Free B W.o (look st.objs) F w)) vs us
 | [],vs,hx=>by cases hx;exact ⟨[],by simp,Pw.nil⟩
 | x :: r,vs,hx=>by
  simp only [resL] at hx
  split at hx
  ·rename_i v vs' h1 h2
   cases hx
   obtain ⟨u,h3,h4⟩:=h.r1 h1
   obtain ⟨us,h5,h6⟩:=h.rL h2
   exact ⟨u :: us,by simp [List.mapM_cons,h3,h5],Pw.cons h4 h6⟩
  ·cases hx
theorem SimW.rV (h:SimW P B W st a w pl F) {fn:Func} {l:List ResultVar} {v:V} (hl:fn.results=l.toArray) (hx:resV P st l=some v) (ht:∀ vs,resL P st l=some vs→vs.all Zkb=true):∃ u,(results fn a.tmps).run P w=.ok u w∧C2 P w (look st.objs) pl (Free B W.o (look st.objs) F w) v u:=by
 have hrun:(results fn a.tmps).run P w=((l.mapM (resM a.tmps)).run P w).andThen fun us w'=>.ok (if us.length=1 then us.headD undef else .tuple us.toArray) w':=by
  unfold results
  rw [hl]
  have e:(fun x:ResultVar=>(match x with | .tmp t=>pure (a.tmps.getD t undef) | .cell a' t=>do loadVar t (← asAddr (a.tmps.getD a' undef)):Sem Value))=resM a.tmps:=by
   funext x;cases x<;>rfl
  rw [Sem.run_bind]
  show ((l.toArray.mapM (fun x:ResultVar=>(match x with | .tmp t=>pure (a.tmps.getD t undef) | .cell a' t=>do loadVar t (← asAddr (a.tmps.getD a' undef)):Sem Value))).run P w).andThen _=_
  rw [e,List.mapM_toArray,Sem.run_map]
  cases (l.mapM (resM a.tmps)).run P w with
  | halt=>rfl
  | ok us w' =>
   simp only [Result.andThen_ok]
   rw [Sem.run_pure]
   congr 1
   by_cases h1:us.length=1
   ·obtain ⟨u,rfl⟩:=List.length_eq_one_iff.1 h1
    simp
   ·simp [h1]
 unfold resV at hx
 split at hx
 ·rename_i v' h1
  cases hx
  obtain ⟨us,h2,h3⟩:=h.rL h1
  obtain ⟨u,rfl⟩:=List.length_eq_one_iff.1 h3.1
  exact ⟨u,by rw [hrun,h2];rfl,h3.2 0 _ _ rfl rfl⟩
 ·rename_i vs hne h1
  cases hx
  obtain ⟨us,h2,h3⟩:=h.rL h1
  have hn1:us.length ≠ 1:=fun e=>by
   rw [h3.1] at e
   obtain ⟨x,rfl⟩:=List.length_eq_one_iff.1 e
   exact hne x rfl
  refine ⟨.tuple us.toArray,by rw [hrun,h2];simp [hn1],us,rfl,h3.1,fun k x u hx hu=>?_⟩
  have hb:Zkb x=true:=List.all_eq_true.1 (ht _ h1) _ (List.mem_of_getElem? hx)
  have h4:=h3.2 k x u hx hu
  cases x<;>first|exact h4|cases hb
 ·cases hx
def Done (P:Program) (rl:List ResultVar) (r:V) (e:Exit) (st:St):Prop:=(e=.normal∨e=.ret)∧∃ v,resV P st rl=some v∧Giv2 (look st.objs) v r∧((ids2 v).Nodup∧∀ vs,resL P st rl=some vs→vs.all Zkb=true)
def argT:Nat→List V→List (Nat×V)
 | _,[]=>[]
 | k,v :: r=>(k,v) :: argT (k + 1) r
theorem ZhK:∀ {aS:List V} {k:Nat} {i:Nat},Zcm (argT k aS) i=if k≤i then (match aS[i - k]? with|some v=>v|none=>.junk) else .junk
 | [],k,i=>by simp [argT,Zcm]
 | v :: r,k,i=>by
  rw [argT,ZcH]
  by_cases h:k=i
  ·subst h;simp
  ·rw [if_neg h,ZhK]
   by_cases h2:k≤i
   ·rw [if_pos h2,if_pos (by omega),show i - k=(i - (k + 1)) + 1 by omega,List.getElem?_cons_succ]
   ·rw [if_neg h2,if_neg (by omega)]
def vOf:List V→V
 | [v]=>v
 | vs=>.tup vs
theorem Done.intro {P:Program} {rl:List ResultVar} {r v:V} {e:Exit} {st:St} {vs:List V} (he:e=.normal∨e=.ret) (hL:resL P st rl=some vs) (hb:vs.all Zkb=true) (hv:vOf vs=v) (hg:Giv2 (look st.objs) v r) (hn:(ids2 v).Nodup):Done P rl r e st:=by
 refine ⟨he,v,?_,hg,hn,fun vs' h=>by rw [hL] at h;cases h;exact hb⟩
 unfold resV
 rw [hL]
 subst hv
 match vs with
 | []=>rfl
 | [v]=>rfl
 | _ :: _ :: _=>rfl
theorem AC.body {f:FuncId} {fn:Func} {c:Code} {aS:List V} {r:V} (hf:P.funcs[f]?=some fn) (hb:fn.body=some c) (hn:(fn.name == "runtime.NumGoroutine")=false) {rl:List ResultVar} (hrl:fn.results=rl.toArray) {n:Nat} (hnt:fn.ntmps=n) (hnn:aS.length≤n)
  (h:∀ B (W:En),(∃ us,Pw (C1 P W.toWorld noLk noPl B) aS us)→aW P B W c (Done P rl r) ⟨n,argT 0 aS,[]⟩):AC P f aS r:=by
 refine ⟨⟨fn,hf,by rw [hb];rfl,hn⟩,fun w B args hB hargs=>?_⟩
 refine calls_of_wp hf hb ?_
 have hs:Sim P B (En.bare w) ⟨n,argT 0 aS,[]⟩ { tmps:=args.toArray++Array.replicate (fn.ntmps - args.toArray.size) undef,defers:=[] } w:=by
  refine ⟨noPl,fun _ _=>False,hB,?_,rfl,Kp.refl _ _,fun i hv=>?_,fun o ep ob ho=>(by cases ho),fun o x b ho=>(by cases ho),fun o o' x x' b _ ho=>(by cases ho),fun o ob0 h0=>(by cases h0)⟩
  ·simp [hargs.1,hnt];omega
  ·show C2 _ _ _ _ _ (Zcm (argT 0 aS) i) ((args.toArray++Array.replicate (fn.ntmps - args.toArray.size) undef).getD i undef)
   rw [ZhK]
   by_cases hi:i < aS.length
   ·obtain ⟨u,hu,hc⟩:=hargs.at_ (List.getElem?_eq_getElem hi)
    have e:(args.toArray++Array.replicate (fn.ntmps - args.toArray.size) undef).getD i undef=u:=by
     rw [Array.getD_eq_getD_getElem?,Array.getElem?_append_left (by simp [hargs.1,hi])]
     simp [hu]
    rw [e,Nat.sub_zero,List.getElem?_eq_getElem hi]
    have hfree:∀ b,B b→Free B (En.bare w).o (look ([]:List (Nat×Nat×Ob))) (fun _ _=>False) w b:=fun b hb=>⟨.inl hb,hB b hb,fun o x ho=>(by cases ho)⟩
    exact (hc.weak (lk':=look []) hfree fun o _=>rfl).c2
   ·rw [List.getElem?_eq_none (by omega)]
    split<;>trivial
 refine wp_mono (h B (En.bare w) ⟨args,hargs⟩ _ _ hs) ?_
 rintro e a' w' ⟨st',⟨pl,F,hs'⟩,he,v,h1,h2,h3,h4⟩
 obtain ⟨u,h5,h6⟩:=hs'.rV hrl h1 h4
 obtain ⟨FF,g1,g2,g3,_⟩:=hs'.giv_x h6 h2 h3 (X:=fun _=>False) fun _ _ h=>h
 have e0:∀ b,(En.bare w).o b↔w.heap.size≤b:=fun b=>⟨fun h=>h.elim id False.elim,.inl⟩
 have h7:ResR P w w' B r u:=by
  refine ⟨FF,?_,fun j k b hb=>⟨(e0 b).1 (g2 j k b hb).1,(g2 j k b hb).2⟩,g3⟩
  have e1:(fun b=>(B b∨(En.bare w).o b)∧b < w'.heap.size∧(∀ o x,False→look st'.objs o=some x→¬ F o b)∧∀ j k,¬ FF j k b)=fun b=>(B b∨w.heap.size≤b)∧b < w'.heap.size∧∀ j k,¬ FF j k b:=by
   funext b
   rw [e0]
   simp
  rw [← e1]
  exact g1
 rcases he with rfl|rfl
 ·exact ⟨hs'.defers,u,h5,u,rfl,hs'.below.below fun _ h=>h,h7⟩
 ·exact ⟨hs'.defers,u,h5,u,rfl,hs'.below.below fun _ h=>h,h7⟩
end
end Go.Proofs.YthfaongbpdnlnaaGreat.Ab
