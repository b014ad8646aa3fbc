/- What is proved: the calculus of abstract states: what a box's cell holds may be given another number.
   Conditions: none beyond those that each lemma names. -/
import Derived.Test.YthfaongbpdnlnaaGreatV30
namespace Go.Proofs.YthfaongbpdnlnaaGreat
set_option maxHeartbeats 4000000
set_option maxRecDepth 20000
set_option linter.unusedSimpArgs false
set_option linter.unusedVariables false
open Go.RowKit Ab
theorem Zb6 {α:Type} [Inhabited α] {xs:List α} {k:Nat} (hk:k < xs.length):xs.getD k default=xs[k]:=by simp [hk]
theorem Zjm {α:Type} [Inhabited α] {f:α→Bool} {xs:List α} {k:Nat} (hk:k < xs.length) (h0:(xs.take k).all f=true) (h:f (xs.getD k default)=true):(xs.take (k + 1)).all f=true:=Zjo hk h0 (by rwa [Zb6 hk] at h)
theorem ZlS {α:Type} [Inhabited α] {f:α→Bool} {xs:List α} {k:Nat} (hk:k < xs.length) (h:f (xs.getD k default)=false):xs.all f=false:=ZlU hk (by rwa [Zb6 hk] at h)
theorem ZlT {α:Type} {f:α→Bool} {xs:List α} {k:Nat} (hk:¬ k < xs.length) (h:(xs.take k).all f=true):xs.all f=true:=by rwa [List.take_of_length_le (by omega)] at h
theorem Zjl (xs:List Int):AC Tryz.prog 217 [.t (ints 3 xs)] (.t (.bool (Zbl xs))):=by
 refine AC.go Tryz.func217 Tryz.ntmps217 fun B W hr=>?_
 obtain ⟨us,hus⟩:=hr
 obtain ⟨hl,hw⟩:=Zga (ZaR hus (i:=0) rfl)
 clear hus
 repeat' (first|refine pa ?_|(refine pb ?_ ?_<;>intro hg)|refine po ?_|fail)
 refine aW.loopF rfl (fun q:Nat=>[(3,.t (.int .i64 q))]) [(0,_)] (fun q=>[]) [] (fun q=>q≤xs.length∧Zbl (xs.take q)=true) (fun q=>xs.length - q) 0 ⟨Nat.zero_le _,rfl⟩ (by (exact plei)) ?_
 rintro k ⟨hk,hok⟩
 refine pln ?_
 repeat' (first|refine pa ?_|(refine pb ?_ ?_<;>intro hg)|(refine pz9 ?_;(first|refine Zaa (Zah _ _ _) ?_))|refine po ?_|fail)
 all_goals first
  | (exact ⟨k + 1,⟨by omega,Zjm (by omega) hok (by simpa using hg)⟩,by omega,by (exact ple)⟩)
  | (refine pfin ?_;exact .inl (congrArg T.bool (ZlS (k:=k) (by omega) (by simpa using hg)).symm))
  | (refine pfin ?_;exact .inl (congrArg T.bool (ZlT (by omega) hok).symm))
def ZaH (xs:List Int):Bool:=decide (xs.length≤400) && Zbl xs
theorem Zhj (xs:List Int):AC Tryz.prog 169 [.agg [.t (ints 3 xs)]] (.t (.bool (ZaH xs))):=by
 have hi:=ZfP xs
 by_cases h:xs.length≤400
 ·have e:ZaH xs=Zbl xs:=by rw [ZaH,decide_eq_true h,Bool.true_and]
  rw [e]
  refine AC.go Tryz.func169 Tryz.ntmps169 fun B W hr=>?_
  repeat' (first|refine pa ?_|(refine pb ?_ ?_<;>intro hg)|(refine pz9 ?_;(first|refine Zaa hi ?_))|refine po ?_|fail)
  all_goals refine pfin ?_
  all_goals exact .inl rfl
 ·have e:ZaH xs=false:=by rw [ZaH,decide_eq_false h,Bool.false_and]
  rw [e]
  refine AC.go Tryz.func169 Tryz.ntmps169 fun B W hr=>?_
  repeat' (first|refine pa ?_|(refine pb ?_ ?_<;>intro hg)|(refine pz9 ?_;(first|refine Zaa hi ?_))|refine po ?_|fail)
  all_goals refine pfin ?_
  all_goals exact .inl rfl
theorem Zhu (xs:List Int):AC Tryz.prog 159 [.agg [.t (ints 3 xs)]] (.t (.bool (ZaH xs))):=by
 have hi:=Zjl xs
 by_cases h:xs.length≤400
 ·have e:ZaH xs=Zbl xs:=by rw [ZaH,decide_eq_true h,Bool.true_and]
  rw [e]
  refine AC.go Tryz.func159 Tryz.ntmps159 fun B W hr=>?_
  repeat' (first|refine pa ?_|(refine pb ?_ ?_<;>intro hg)|(refine pz9 ?_;(first|refine Zaa hi ?_))|refine po ?_|fail)
  all_goals refine pfin ?_
  all_goals exact .inl rfl
 ·have e:ZaH xs=false:=by rw [ZaH,decide_eq_false h,Bool.false_and]
  rw [e]
  refine AC.go Tryz.func159 Tryz.ntmps159 fun B W hr=>?_
  repeat' (first|refine pa ?_|(refine pb ?_ ?_<;>intro hg)|(refine pz9 ?_;(first|refine Zaa hi ?_))|refine po ?_|fail)
  all_goals refine pfin ?_
  all_goals exact .inl rfl
theorem Zb3 {n lo hi:Int} (h:¬ (lo≤n∧n≤hi)):inR n lo hi=false:=by rw [Bool.eq_false_iff];exact fun g=>h (Zae.1 g)
def ZsB (ys:List Int):Bool:=ys.all fun n=>inR n 0 400
def ZhP (fr tk fs:Int) (ins acks:List Int) (stk sm tm ec:Int):Bool :=
 inR acks.length 1 4 && ZsB acks && inR fr 0 (acks.length - 1) && decide (ins.length≤40) && Zbl ins && inR fs 0 (400 - ins.length) && inR tk 0 400 && inR stk 0 400 && inR sm 0 274877906943 && inR tm 0 1000000 && inR ec 0 1000000
abbrev TS:=List (List Int)
def trackC (xs:List Int):List T:=[ints 3 xs]
theorem ZnX (ts:TS):∀ x ∈ ts.map trackC,x.length=1:=fun x hx=>by obtain ⟨p,_,rfl⟩:=List.mem_map.1 hx;rfl
theorem Zh2 (ts:TS):(ts.map trackC).flatten=ts.map (ints 3):=ZdE (ints 3) ts
theorem Zdc {P:Program} {e:TypeId} {ts:TS} (h:RdT P (.lst false e (ts.map trackC))):ts.length≤9223372036854775807∧∀ k,k < ts.length→RdT P (ints 3 (ts.getD k default)):=by
 obtain ⟨h1,h2,h3⟩:=ZhS h
 refine ⟨by simpa using h1,fun k hk=>?_⟩
 have h4:=Zb0 (ZnX ts) (i:=k) (j:=0) (by simpa using hk) (by omega)
 rw [getD_map hk] at h4
 exact h3 _ _ h4
def Zat (ts:TS):Nat:=(ts.map List.length).sum
def Zan (ts:TS):Bool:=inR ts.length 1 4 && ts.all ZaH
theorem Zds (ts:TS):AC Tryz.prog 84 [.t (.lst false 46 (ts.map trackC))] (.t (.bool (Zan ts))):=by
  refine AC.go Tryz.func84 Tryz.ntmps84 fun B W hr=>?_
  obtain ⟨us,hus⟩:=hr
  have hl:=(Zdc (ZaR hus (i:=0) rfl)).1
  clear hus
  repeat' (first|refine pa ?_|(refine pb ?_ ?_<;>intro hg)|refine po ?_|fail)
  all_goals first
    | (have hL:inR ts.length 1 4=false:=Zb3 (by omega)
       (refine pfin ?_;refine .inl (congrArg T.bool ?_);(try simp only [Bool.not_eq_true',Bool.not_eq_false'] at *);(first|(simp only [Zan, *,Bool.and_true,Bool.and_false,Bool.false_and,Bool.true_and,Bool.and_self,Bool.not_true,Bool.not_false];done)|(simp [Zan, *];done))))
    | skip
  have hL:inR ts.length 1 4=true:=Zae.2 (by omega)
  refine aW.loopF rfl (fun q:Nat=>[(15,.t (.int .i64 q))]) [(14,_),(13,_)] (fun q=>[]) [] (fun q=>q≤ts.length∧(ts.take q).all ZaH=true) (fun q=>ts.length - q) 0 ⟨Nat.zero_le _,rfl⟩ (by (exact plei)) ?_
  rintro k ⟨hk,hok⟩
  refine pln ?_
  repeat' (first|refine pa ?_|(refine pb ?_ ?_<;>intro hg)|(refine pz9 ?_;(first|refine Zaa (Zhj _) ?_))|refine po ?_|fail)
  all_goals first
    | (exact ⟨k + 1,⟨by omega,Zjm (by omega) hok (by simpa using hg)⟩,by omega,by (exact ple)⟩)
    | (have ha:ts.all ZaH=false:=ZlS (k:=k) (by omega) (by simpa using hg)
       (refine pfin ?_;refine .inl (congrArg T.bool ?_);(try simp only [Bool.not_eq_true',Bool.not_eq_false'] at *);(first|(simp only [Zan, *,Bool.and_true,Bool.and_false,Bool.false_and,Bool.true_and,Bool.and_self,Bool.not_true,Bool.not_false];done)|(simp [Zan, *];done))))
    | (have ha:ts.all ZaH=true:=ZlT (by omega) hok
       (refine pfin ?_;refine .inl (congrArg T.bool ?_);(try simp only [Bool.not_eq_true',Bool.not_eq_false'] at *);(first|(simp only [Zan, *,Bool.and_true,Bool.and_false,Bool.false_and,Bool.true_and,Bool.and_self,Bool.not_true,Bool.not_false];done)|(simp [Zan, *];done))))
theorem ZeA (ts:TS):AC Tryz.prog 77 [.t (.lst false 46 (ts.map trackC))] (.t (.bool (Zan ts))):=by
  refine AC.go Tryz.func77 Tryz.ntmps77 fun B W hr=>?_
  obtain ⟨us,hus⟩:=hr
  have hl:=(Zdc (ZaR hus (i:=0) rfl)).1
  clear hus
  repeat' (first|refine pa ?_|(refine pb ?_ ?_<;>intro hg)|refine po ?_|fail)
  refine aW.loopF rfl (fun q:Nat=>[(3,.t (.int .i64 q))]) [(0,_)] (fun q=>[]) [] (fun q=>q≤ts.length∧(ts.take q).all ZaH=true) (fun q=>ts.length - q) 0 ⟨Nat.zero_le _,rfl⟩ (by (exact plei)) ?_
  rintro k ⟨hk,hok⟩
  refine pln ?_
  repeat' (first|refine pa ?_|(refine pb ?_ ?_<;>intro hg)|(refine pz9 ?_;(first|refine Zaa (Zhu _) ?_|refine Zaa (Zah _ _ _) ?_))|refine po ?_|fail)
  all_goals first
    | (exact ⟨k + 1,⟨by omega,Zjm (by omega) hok (by simpa using hg)⟩,by omega,by (exact ple)⟩)
    | (have ha:ts.all ZaH=false:=ZlS (k:=k) (by omega) (by simpa using hg)
       (refine pfin ?_;refine .inl (congrArg T.bool ?_);(try simp only [Bool.not_eq_true',Bool.not_eq_false'] at *);(first|(simp only [Zan, *,Bool.and_true,Bool.and_false,Bool.false_and,Bool.true_and,Bool.and_self,Bool.not_true,Bool.not_false];done)|(simp [Zan, *];done))))
    | (have ha:ts.all ZaH=true:=ZlT (by omega) hok
       (refine pfin ?_;refine .inl (congrArg T.bool ?_);(try simp only [Bool.not_eq_true',Bool.not_eq_false'] at *);(first|(simp only [Zan, *,Bool.and_true,Bool.and_false,Bool.false_and,Bool.true_and,Bool.and_self,Bool.not_true,Bool.not_false];done)|(simp [Zan, *];done))))
def Zcr:Int→TS→TS
 | _,[]=>[]
 | k,t :: r=>Zb8 k t.length :: Zcr (k + t.length) r
structure Mix (k:Int) (ts mix:TS) (i:Nat):Prop where
 le:i≤ts.length
 len:mix.length=ts.length
 done:∀ j,j < i→mix.getD j default=(Zcr k ts).getD j default
 rest:∀ j,i≤j→j < ts.length→mix.getD j default=ts.getD j default
def Zsn (ts:TS):List Int:=ts.map fun t=>(t.length:Int)
def ZuL (ts:TS) (me ack:Int):Prop:=Zan ts=true∧0≤me∧me < ts.length∧0≤ack∧ack≤(ts.getD me.toNat default).length
theorem Zbi {ts:TS} (h:Zan ts=true):1≤ts.length∧ts.length≤4:=by
 unfold Zan at h
 rw [Bool.and_eq_true,Zae] at h
 omega
theorem ZfG {ts:TS} (h:Zan ts=true) {k:Nat} (hk:k < ts.length):ZaH (ts.getD k default)=true:=by
 unfold Zan at h
 rw [Bool.and_eq_true] at h
 rw [Zb6 hk]
 exact List.all_eq_true.1 h.2 _ (List.getElem_mem hk)
theorem Zei {xs:List Int} (h:ZaH xs=true):xs.length≤400:=by
 unfold ZaH at h
 rw [Bool.and_eq_true,decide_eq_true_eq] at h
 exact h.1
end Go.Proofs.YthfaongbpdnlnaaGreat
namespace Go.Proofs.YthfaongbpdnlnaaGreat.Ab
set_option maxHeartbeats 4000000
set_option maxRecDepth 20000
set_option linter.unusedSimpArgs false
set_option linter.unusedVariables false
open Go.RowKit
section
variable {P:Program} {B:Nat→Prop} {W:En} {st:St} {a:Act} {w:World}
theorem SimW.recellG {pl:Nat→Value} {F:Nat→Nat→Prop} (h:SimW P B W st a w pl F) {o i ep epo k:Nat} {ty:TypeId} {cs:List V} {fl:Bool} {e:TypeId} {els:List (List T)} (ho:look st.objs o=some (epo,.box ty cs)) (hk:k < cs.length)
  (hi:look st.objs i=some (ep,.row fl true e els)) (hp:∀ (g:Nat) (us:List Value),pl o=.pointer (some ⟨g,0,none⟩)→w.heap[g]?=some (.cells us.toArray ty (0,0))→∀ u,us[k]?=some u→u.oneCell'=true∧u=pl i) (hne:i ≠ o) :
  SimW P B W { st with objs:=(o,epo,.box ty (cs.set k (.hnd i ep))) :: st.objs } a w pl F:=by
 have hlk:∀ j,j ≠ o→look ((o,epo,Ob.box ty (cs.set k (.hnd i ep))) :: st.objs) j=look st.objs j:=fun j hj=>by rw [ZaB,if_neg (Ne.symm hj)]
 have hlo:look ((o,epo,Ob.box ty (cs.set k (.hnd i ep))) :: st.objs) o=some (epo,.box ty (cs.set k (.hnd i ep))):=by rw [ZaB,if_pos rfl]
 have hsome:∀ j x,look ((o,epo,Ob.box ty (cs.set k (.hnd i ep))) :: st.objs) j=some x→∃ y,look st.objs j=some y∧y.1=x.1∧(j ≠ o→y=x):=fun j x hj=>by
  by_cases hjo:j=o
  ·subst hjo
   rw [hlo] at hj
   cases hj
   exact ⟨_,ho,rfl,fun h=>absurd rfl h⟩
  ·rw [hlk j hjo] at hj
   exact ⟨x,hj,rfl,fun _=>rfl⟩
 have hfr:∀ b,Free B W.o (look st.objs) F w b→Free B W.o (look ((o,epo,Ob.box ty (cs.set k (.hnd i ep))) :: st.objs)) F w b:=fun b hb=>⟨hb.1,hb.2.1,fun j x hj=>by
  obtain ⟨y,hy,_⟩:=hsome j x hj
  exact hb.2.2 j y hy⟩
 have g:Goes P w w (look st.objs) (look ((o,epo,Ob.box ty (cs.set k (.hnd i ep))) :: st.objs)) pl pl (Free B W.o (look st.objs) F w) (Free B W.o (look ((o,epo,Ob.box ty (cs.set k (.hnd i ep))) :: st.objs)) F w) :=
  ⟨hfr,fun _ _=>rfl,fun j ep0 ob0 hj=>by
   by_cases hjo:j=o
   ·subst hjo
    rw [ho] at hj
    cases hj
    exact ⟨_,_,hlo,.inr ⟨rfl,rfl,rfl,rfl⟩⟩
   ·exact ⟨ep0,ob0,(hlk j hjo).trans hj,.inr ⟨rfl,rfl,rfl,rfl⟩⟩⟩
 refine ⟨h.old,h.size,h.defers,h.below,fun j hj=>(h.tmps j hj).goes g,fun j ep0 ob0 hj=>?_,fun j x b hj hf=>?_,fun j j' x x' b hne hj hj'=>?_,fun j ob0 h0 ep0 ob hj=>?_⟩
 ·by_cases hjo:j=o
  ·subst hjo
   have hj':look ((j,epo,Ob.box ty (cs.set k (.hnd i ep))) :: st.objs) j=some (ep0,ob0):=hj
   rw [hlo] at hj'
   cases hj'
   obtain ⟨gb,us,h1,h2,h3,h4,h5⟩:=h.objs j _ _ ho
   refine ⟨gb,us,h1,h2,h3,by simpa using h4,fun q x u hx hu=>?_⟩
   by_cases hq:k=q
   ·subst hq
    rw [List.getElem?_set_self hk] at hx
    cases hx
    obtain ⟨h6,h7⟩:=hp gb us h1 h3 u hu
    exact ⟨h6,ep,_,(hlk i hne).trans hi,Nat.le_refl _,fun _=>⟨rfl,h7⟩⟩
   ·rw [List.getElem?_set_ne hq] at hx
    exact C0.goes g (h5 q x u hx hu)
  ·have hj':look ((o,epo,Ob.box ty (cs.set k (.hnd i ep))) :: st.objs) j=some (ep0,ob0):=hj
   rw [hlk j hjo] at hj'
   exact (h.objs j ep0 ob0 hj').goes (fun _ _=>rfl) (fun _ _ hc=>C0.goes g hc) (fun _ _ hr=>hr.mono g.more g.heap)
 ·obtain ⟨y,hy,_⟩:=hsome j x hj
  exact h.range j y b hy hf
 ·obtain ⟨y,hy,_⟩:=hsome j x hj
  obtain ⟨y',hy',_⟩:=hsome j' x' hj'
  exact h.apart j j' y y' b hne hy hy'
 ·by_cases hjo:j=o
  ·subst hjo
   have hj':look ((j,epo,Ob.box ty (cs.set k (.hnd i ep))) :: st.objs) j=some (ep0,ob):=hj
   rw [hlo] at hj'
   cases hj'
   rcases h.hist j ob0 h0 _ _ ho with h5|⟨h5,h6,h7⟩
   ·exact .inl h5
   ·exact .inr ⟨h5,h6,h7⟩
  ·have hj':look ((o,epo,Ob.box ty (cs.set k (.hnd i ep))) :: st.objs) j=some (ep0,ob):=hj
   rw [hlk j hjo] at hj'
   exact h.hist j ob0 h0 _ _ hj'
theorem Zco.renameC {b eb c o ep j ej:Nat} {ty:TypeId} {cs cs':List V} {fl:Bool} {e:TypeId} {els:List (List T)} (hb:look st.objs b=some (eb,.box ty cs)) (hc:cs[c]?=some (.hnd o ep)) (hl:look st.objs o=some (ep,.row fl true e els)) (hne:Nat.beq j o=false) (hbo:Nat.beq b o=false) (hbj:Nat.beq b j=false) (hej:nep (look st.objs j)=ej) (hcs:cs.set c (.hnd j ej)=cs') :
  Zco P B W st ⟨st.n,st.tmps,(b,eb,.box ty cs') :: (j,ej,.row fl true e els) :: (o,ep + 1,.gone) :: st.objs⟩:=fun a w ⟨pl,F,hs⟩=>by
 have hjo:j ≠ o:=Nat.ne_of_beq_eq_false hne
 have hbo:b ≠ o:=Nat.ne_of_beq_eq_false hbo
 have hbj:b ≠ j:=Nat.ne_of_beq_eq_false hbj
 subst hej hcs
 have hlo:look ((j,nep (look st.objs j),.row fl true e els) :: (o,ep + 1,.gone) :: st.objs) o=some (ep + 1,.gone):=by rw [ZaB,if_neg hjo,ZaB,if_pos rfl]
 have hlj:look ((j,nep (look st.objs j),.row fl true e els) :: (o,ep + 1,.gone) :: st.objs) j=some (nep (look st.objs j),.row fl true e els):=by rw [ZaB,if_pos rfl]
 have hlb:look ((j,nep (look st.objs j),.row fl true e els) :: (o,ep + 1,.gone) :: st.objs) b=some (eb,.box ty cs):=by rw [ZaB,if_neg (Ne.symm hbj),ZaB,if_neg (Ne.symm hbo)];exact hb
 have hOw:Ow P w (.lst fl e els) (pl o) (F o):=by
  rcases hs.objs o _ _ hl with ⟨_,h5⟩|⟨h5,_⟩
  ·exact h5
  ·cases h5
 obtain ⟨gb,us0,b1,b2,b3,b4,b5⟩:=hs.objs b _ _ hb
 have hcl:=(List.getElem?_eq_some_iff.1 hc).1
 obtain ⟨pl',F',h5,hp,_,g,_⟩:=hs.many (w':=w) (objs':=(j,nep (look st.objs j),.row fl true e els) :: (o,ep + 1,.gone) :: st.objs) (nv:=fun _=>pl o) (nF:=fun k b=>k=j∧F o b) (Nw:=fun k=>k=o∨k=j)
  (Kp.refl _ _) (fun _ _ _=>rfl)
  (fun k hk=>by rw [ZaB,if_neg fun e=>hk (.inr e.symm),ZaB,if_neg fun e=>hk (.inl e.symm)])
  (fun k hk=>by
   rcases hk with hk|hk
   ·subst hk
    refine ⟨ep + 1,_,hlo,fun ep0 ob0' h0=>.inl ?_,fun h0=>(by rw [hl] at h0;cases h0)⟩
    rw [hl] at h0
    cases h0
    exact Nat.lt_succ_self _
   ·subst hk
    exact ⟨_,_,hlj,fun ep0 ob0' h0=>.inl (ZgQ h0),fun _=>ZeH _⟩)
  (fun k b hk hf=>⟨(hs.range _ _ _ hl hf.2).2,.inr ⟨o,_,.inl rfl,hl,hf.2⟩⟩)
  (fun k k' b hk hk' hne' h h'=>hne' (h.1.trans h'.1.symm))
  (fun lk' pl' Fr' hFr hlp k e' b hk hlk=>by
   rcases hk with hk|hk
   ·subst hk
    rw [hlo] at hlk
    cases hlk
    exact fun _ h=>hjo h.1.symm
   ·subst hk
    rw [hlj] at hlk
    cases hlk
    refine .inl ⟨rfl,?_⟩
    have e1:(fun b=>k=k∧F o b)=F o:=by funext b;simp
    show Ow P w _ (pl o) (fun b=>k=k∧F o b)
    rw [e1]
    exact hOw)
 have hpb:pl' b=pl b:=by
  obtain ⟨ep',ob',q1,q2⟩:=g.look b _ _ hb
  rw [hlb] at q1
  cases q1
  rcases q2 with q2|⟨_,q3,_⟩
  ·exact absurd q2 (Nat.lt_irrefl _)
  ·exact q3
 refine ⟨pl',F',h5.recellG (o:=b) (i:=j) (k:=c) hlb hcl hlj (fun g' us q1 q2 u hu=>?_) (Ne.symm hbj)⟩
 rw [hpb,b1] at q1
 cases q1
 rw [b3] at q2
 have q3:us0=us:=by
  have:=Option.some.inj q2
  injection this with this
  exact congrArg Array.toList this
 subst q3
 obtain ⟨c1,e0,ob0,c2,c3,c4⟩:C0 P w (look st.objs) pl (Free B W.o (look st.objs) F w) (.hnd o ep) u:=b5 c _ u hc hu
 rw [hl] at c2
 cases c2
 exact ⟨c1,((c4 rfl).2).trans (hp j (.inr rfl)).symm⟩
end
end Go.Proofs.YthfaongbpdnlnaaGreat.Ab
