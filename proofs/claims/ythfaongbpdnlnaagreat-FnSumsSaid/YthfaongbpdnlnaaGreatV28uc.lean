/- What is proved: a peer's confirmed worlds played again from the beginning, in plain terms.
   Conditions: none beyond those that each lemma names. -/
import Derived.Test.YthfaongbpdnlnaaGreatT12uc
import Derived.Test.YthfaongbpdnlnaaGreatT88uc
import Derived.Test.YthfaongbpdnlnaaGreatT98
import Derived.Test.YthfaongbpdnlnaaGreatV25ub
namespace Go.Proofs.YthfaongbpdnlnaaGreat.Ab
set_option maxHeartbeats 4000000
set_option maxRecDepth 20000
set_option linter.unusedSimpArgs false
set_option linter.unusedVariables false
open Go.RowKit
theorem pg2_ {X Y:Prop} (i:Nat) (h:Y) (r:HldI i Y→X:=by intro h;first|(refine aA.yesI h ?_;(refine ZcU (n:=2) ?_;(first|exact qabd5 h.out|exact qeec6 h.out)))|exact aA.noI h h.out|exact aA.notI h h.out):X:=r ⟨h⟩
end Go.Proofs.YthfaongbpdnlnaaGreat.Ab
namespace Go.Proofs.YthfaongbpdnlnaaGreat
set_option maxHeartbeats 4000000
set_option maxRecDepth 20000
set_option linter.unusedSimpArgs false
set_option linter.unusedVariables false
open Go.RowKit Ab
theorem Zuf {X Y:Prop} (h:Y) (r:Hld Y→X:=by intro h;exact pdr [] 13 (by (apply pct 13 8191 0;(focus (intro hd7;(apply pct 13 2047 2;(focus (intro hd6;(apply pct 13 1023 3;(focus (intro hd5;(apply pct 13 1021 4;(focus (intro hd4;(apply pct 13 511 4;(focus (intro hd3;(apply pct 13 509 5;(focus (intro hd2;(apply pct 13 255 5;(focus (intro hd1;(refine ZaC 0 ?_<;>refine pt0_ 2 ?_<;>refine pt0_ 3 ?_<;>refine pt0_ 4 ?_<;>refine Ziv 5 ?_<;>refine pt0_ 6 ?_<;>refine Zbh 7 ?_<;>(refine pq2 1 8 ?_ ?_;(focus ((refine pop ?_;refine pk7 ?_)<;>(exact ptm hd1)));(focus ((refine pop ?_;refine pk20 ?_)<;>(exact ptm hd2)))))));(case main=>((refine pq1 8 ?_;(focus ((refine pop ?_;refine pk20 ?_)<;>(exact ptm hd3)))))))));(case main=>((refine pq2 1 9 ?_ ?_;(focus ((refine pop ?_;refine pk7 ?_)<;>(exact ptw hd3)));(focus ((refine pop ?_;refine pk14 ?_)<;>(exact ptm hd4)))))))));(case main=>((refine pq1 9 ?_;(focus ((refine pop ?_;refine pk14 ?_)<;>(exact ptm hd5)))))))));(case main=>((refine pq1 1 ?_;(focus ((refine pop ?_;refine pk7 ?_)<;>(exact ptw hd5)))))))));(case main=>((refine pq1 10 ?_;(focus ((refine pop ?_;refine pk20 ?_)<;>(exact ptm hd6)))))))));(case main=>(refine ZaC 11 ?_<;>(refine pq1 12 ?_;(focus ((refine pop ?_;refine pk8 ?_)<;>(exact ptm hd7)))))))));(case main=>((refine ZaI ?_;exact ZaJ))))) h.out):X:=r ⟨h⟩
theorem ZsE (ts:TS) (m a:Nat) (hok:Zan ts=true) (hm:m < ts.length) (ha:a≤(ts.getD m default).length):AC Tryz.prog 129 [.t (.lst false 46 (ts.map trackC)),.t (.int .i64 m),.t (.int .i64 a)]
  (.tup [.agg [.t (.int .i64 m),.t (.int .i64 0),.t (.int .i64 a),.fr true 3 (Zak (((ts.getD m default).drop a).take 40)),.fr true 3 (Zak (Zsn ts)),.t (.int .i64 0),.t (.int .i64 0),.t (.int .i64 0),.t (.int .i64 0)],.t (.bool true)]):=by
 have hto:=Zds ts
 rw [hok] at hto
 obtain ⟨hl1,hl4⟩:=Zbi hok
 have hl400:=Zei (ZfG hok hm)
 refine AC.go Tryz.func129 Tryz.ntmps129 fun B W hr=>?_
 repeat' (first|refine pa ?_|(refine pb ?_ ?_<;>intro hg)|(refine pz9 ?_;(first|refine Zaa hto ?_|refine Zaa (Zaq _ _ _) ?_))|refine po ?_|(refine Zuf ?_)|fail)
 all_goals try (exfalso;simp only [Bool.not_eq_true',Bool.not_eq_false',inR,decide_eq_true_eq,decide_eq_false_iff_not] at *;omega)
 refine aW.nilcell (o:=8) (i:=500) (k:=4) true 3 rfl rfl rfl rfl rfl ?_
 refine aW.loopF rfl (fun q:Nat×Nat×List (List T)=>[(62,.t (.int .i64 q.1))]) [(61,_),(60,_),(8,_),(6,_)] (fun q=>[(8,1,.box 48 [.t (.int .i64 m),.t (.int .i64 0),.t (.int .i64 a),.hnd 58 1,.hnd 500 q.2.1,.t (.int .i64 0),.t (.int .i64 0),.t (.int .i64 0),.t (.int .i64 0)]),(500,q.2.1,.row true true 3 q.2.2)]) [(58,_,_),(6,_,_)] (fun q=>q.1≤ts.length∧q.2.2=Zak (Zsn (ts.take q.1))) (fun q=>ts.length - q.1) (0,1,[]) ⟨Nat.zero_le _,rfl⟩ (by (exact plei)) ?_
 rintro ⟨k,ep,es⟩ hI
 obtain ⟨hk,he⟩:k≤ts.length∧es=Zak (Zsn (ts.take k)):=hI
 subst he
 have hel2:(Zsn (ts.take k)).length=k:=by rw [ZtJ,List.length_take];omega
 have hel:(Zak (Zsn (ts.take k))).length=k:=by rw [Zal,hel2]
 refine pln ?_
 by_cases hkn:k < ts.length
 ·repeat' (first|refine pa ?_|(refine pb ?_ ?_<;>intro hg)|refine po ?_|(refine Zuf ?_)|fail)
  exact ⟨(k + 1,ep + 1,_),⟨hkn,(Ztp hkn).symm⟩,by show ts.length - (k + 1) < ts.length - k;omega,by (exact ple)⟩
 ·repeat' (first|refine pa ?_|(refine pb ?_ ?_<;>intro hg)|refine po ?_|(refine Zuf ?_)|fail)
  have hk':k=ts.length:=by omega
  subst hk'
  refine pfin ?_
  (repeat' (first|exact trivial|exact Or.inl rfl|exact rfl|refine And.intro ?_ ?_))
  ·refine congrArg (fun z=>some ((1:Nat),Ob.row true true 3 (Zak z))) (Zud ((ts.getD m default).drop a) ?_)
   rw [List.length_drop]
   split<;>omega
  ·exact congrArg (fun z=>some (ep,Ob.row true true 3 (Zak (Zsn z)))) List.take_length
theorem ZsM (ts:TS) (me ack:Int) (h:¬ ZuL ts me ack):AC Tryz.prog 129 [.t (.lst false 46 (ts.map trackC)),.t (.int .i64 me),.t (.int .i64 ack)]
  (.tup [.agg [.t (.int .i64 0),.t (.int .i64 0),.t (.int .i64 0),.fr true 3 (Zak []),.fr true 3 (Zak []),.t (.int .i64 0),.t (.int .i64 0),.t (.int .i64 0),.t (.int .i64 0)],.t (.bool false)]):=by
 have hto:=Zds ts
 by_cases hok:Zan ts=true
 ·rw [hok] at hto
  obtain ⟨hl1,hl4⟩:=Zbi hok
  by_cases h1:0≤me∧me < ts.length
  ·obtain ⟨m,rfl⟩:=Int.eq_ofNat_of_zero_le h1.1
   have hm:m < ts.length:=by omega
   have hl400:=Zei (ZfG hok hm)
   have h2:¬ (0≤ack∧ack≤((ts.getD m default).length:Int)):=fun hc=>h ⟨hok,by omega,by omega,hc.1,by simpa using hc.2⟩
   have hL1:inR (m:Int) 0 ((ts.length:Int) - 1)=true:=Zae.2 (by omega)
   have hL2:inR ack 0 ((ts.getD m default).length:Int)=false:=Zb3 h2
   refine AC.go Tryz.func129 Tryz.ntmps129 fun B W hr=>?_
   obtain ⟨us,hus⟩:=hr
   have hlb:=ZcJ (ZaR hus (i:=2) rfl)
   clear hus
   repeat' (first|refine pa ?_|(refine pb ?_ ?_<;>intro hg)|(refine pz9 ?_;(first|refine Zaa hto ?_|refine Zaa (Zaq _ _ _) ?_))|refine po ?_|(refine Zuf ?_)|fail)
   all_goals first
    | (refine pfin ?_;(exact pgiv);done)
    | (exfalso;simp only [Bool.not_eq_true',Bool.not_eq_false',inR,decide_eq_true_eq,decide_eq_false_iff_not] at *;omega)
  ·have hL1:inR me 0 ((ts.length:Int) - 1)=false:=Zb3 (by omega)
   refine AC.go Tryz.func129 Tryz.ntmps129 fun B W hr=>?_
   repeat' (first|refine pa ?_|(refine pb ?_ ?_<;>intro hg)|(refine pz9 ?_;(first|refine Zaa hto ?_|refine Zaa (Zaq _ _ _) ?_))|refine po ?_|(refine Zuf ?_)|fail)
   all_goals first
    | (refine pfin ?_;(exact pgiv);done)
    | (exfalso;simp only [Bool.not_eq_true',Bool.not_eq_false',inR,decide_eq_true_eq,decide_eq_false_iff_not] at *;omega)
 ·rw [Bool.not_eq_true] at hok
  rw [hok] at hto
  refine AC.go Tryz.func129 Tryz.ntmps129 fun B W hr=>?_
  repeat' (first|refine pa ?_|(refine pb ?_ ?_<;>intro hg)|(refine pz9 ?_;(first|refine Zaa hto ?_|refine Zaa (Zaq _ _ _) ?_))|refine po ?_|(refine Zuf ?_)|fail)
  all_goals first
   | (refine pfin ?_;(exact pgiv);done)
   | (exfalso;simp only [Bool.not_eq_true',Bool.not_eq_false',inR,decide_eq_true_eq,decide_eq_false_iff_not] at *;omega)
theorem ZuA (xs:List Int) (i:Nat) (h:i < xs.length):AC Tryz.prog 44 [.t (ints 3 xs),.t (.int .i64 i)] (.t (.int .i64 (xs.getD i default))):=by
 refine AC.go Tryz.func44 Tryz.ntmps44 fun B W hr=>?_
 repeat' (first|refine pa ?_|(refine pb ?_ ?_<;>intro hg)|refine po ?_|fail)
 exact pfr
noncomputable def Zt6 (p:Pr) (ack:Int):PkV:=if ZsW p ack then ⟨p.me,p.now.tick,ack,Zt0 p ack,Zsn p.tracks,p.base.tick,Zgm p.base,0,0⟩ else ⟨0,0,0,[],[],0,0,0,0⟩
theorem ZuV (p:Pr) (ack:Int) (hp:p.tracks.length≤1048576) (v:PkV) (hv:v=Zt6 p ack):AC Tryz.prog 46 [.agg [.t (.int .i64 p.me),.t (.int .i64 p.delay),.t (.int .i64 p.ahead),.t (.int .i64 p.seed),.t (.lst false 46 (p.tracks.map trackC)),.t (.lst true 9 (Zai p.base.level)),.t (.int .i64 p.base.tick),.t (.int .i64 p.base.seed),.t (ints 3 p.base.scores),.t (.lst true 114 (p.base.bodies.map bodyC)),.t (.lst true 9 (Zai p.now.level)),.t (.int .i64 p.now.tick),.t (.int .i64 p.now.seed),.t (ints 3 p.now.scores),.t (.lst true 114 (p.now.bodies.map bodyC)),.t (.lst false 27 (p.used.map trackC)),.t (.lst true 100 (p.saves.map saveC)),.t (ints 3 p.sums),.t (.int .i64 p.ft),.t (.int .i64 p.fp),.t (.int .i64 p.fa),.t (.int .i64 p.rolls),.t (.int .i64 p.again)],.t (.int .i64 ack)] (.tup [.agg [.t (.int .i64 v.fr),.t (.int .i64 v.tk),.t (.int .i64 v.fs),.fr true 3 (Zak v.ins),.fr true 3 (Zak v.acks),.t (.int .i64 v.stk),.t (.int .i64 v.sm),.t (.int .i64 v.tm),.t (.int .i64 v.ec)],.t (.bool (decide (ZsW p ack)))]):=by
 have hpo:=Zgp p hp
 by_cases h1:Zb9 p=true
 case neg =>
  have hno:¬ ZsW p ack:=fun h=>h1 h.1
  rw [Bool.not_eq_true] at h1
  rw [h1] at hpo
  rw [Zt6,if_neg hno] at hv
  rw [decide_eq_false hno,hv]
  refine AC.go Tryz.func46 Tryz.ntmps46 fun B W hr=>?_
  repeat' (first|refine pa ?_|(refine pb ?_ ?_<;>intro hg)|(refine pz9 ?_;(first|refine Zaa hpo ?_))|refine po ?_|fail)
  exact pfg
 rw [h1] at hpo
 have hws:=Zrx p.base
 by_cases h2:ZuL p.tracks p.me ack
 case neg =>
  have hno:¬ ZsW p ack:=fun h=>h2 h.2.1
  have hmk:=ZsM p.tracks p.me ack h2
  rw [Zt6,if_neg hno] at hv
  rw [decide_eq_false hno,hv]
  refine AC.go Tryz.func46 Tryz.ntmps46 fun B W hr=>?_
  repeat' (first|refine pa ?_|(refine pb ?_ ?_<;>intro hg)|(refine pz9 ?_;(first|refine Zaa hpo ?_|refine Zaa hws ?_|refine pz3 hmk ?_))|refine po ?_|fail)
  exact pfg
 obtain ⟨k1,k2,k3,k4,k5⟩:=h2
 have hmk:=ZsE p.tracks p.me.toNat ack.toNat k1 (by omega) (by omega)
 rw [Int.toNat_of_nonneg k2,Int.toNat_of_nonneg k4] at hmk
 have hpk:=ZtC p.me p.now.tick ack p.base.tick (Zgm p.base) 0 0 (Zt0 p ack) (Zsn p.tracks)
 by_cases h3:ZhP p.me p.now.tick ack (Zt0 p ack) (Zsn p.tracks) p.base.tick (Zgm p.base) 0 0=true
 case neg =>
  have hno:¬ ZsW p ack:=fun h=>h3 h.2.2
  rw [Bool.not_eq_true] at h3
  rw [h3] at hpk
  rw [Zt6,if_neg hno] at hv
  rw [decide_eq_false hno,hv]
  generalize Zgm p.base=sm at hws hpk
  unfold Zt0 at hpk
  generalize ((p.tracks.getD p.me.toNat default).drop ack.toNat).take 40=ins at hmk hpk
  generalize Zsn p.tracks=acks at hmk hpk
  refine AC.go Tryz.func46 Tryz.ntmps46 fun B W hr=>?_
  repeat' (first|refine pa ?_|(refine pb ?_ ?_<;>intro hg)|(refine pz9 ?_;(first|refine Zaa hpo ?_|refine Zaa hws ?_|refine Zaa hpk ?_|refine pz3 hmk ?_))|refine po ?_|fail)
  exact pfg
 have hyes:ZsW p ack:=⟨h1,⟨k1,k2,k3,k4,k5⟩,h3⟩
 rw [h3] at hpk
 rw [Zt6,if_pos hyes] at hv
 rw [decide_eq_true hyes,hv]
 unfold Zt0 at hpk ⊢
 clear hv h3 hyes
 generalize Zgm p.base=sm at hws hpk
 generalize ((p.tracks.getD p.me.toNat default).drop ack.toNat).take 40=ins at hmk hpk
 generalize Zsn p.tracks=acks at hmk hpk
 refine AC.go Tryz.func46 Tryz.ntmps46 fun B W hr=>?_
 repeat' (first|refine pa ?_|(refine pb ?_ ?_<;>intro hg)|(refine pz9 ?_;(first|refine Zaa hpo ?_|refine Zaa hws ?_|refine Zaa hpk ?_|refine pz3 hmk ?_))|refine po ?_|fail)
 exact pfg
noncomputable def Ztk (p:Pr) (k:Nat):Wd:=runF p.ft p.fp p.fa (newV p.base.level p.tracks.length p.seed) (Zbr p.tracks 0 k)
theorem ZuO {m:Nat} {p:Pr} (h:Zsw m p) {k:Nat} (hk:(k:Int)≤p.base.tick):ZaV (Ztk p k)∧(Ztk p k).tick=k∧(Ztk p k).level=p.base.level∧(Ztk p k).scores.length=p.tracks.length∧p.sums.getD k default=Zgm (Ztk p k)∧(k:Int)≤Zbe p.tracks∧k < p.sums.length:=by
 have hg:=h.good
 have hb:=ZuN hg.ok
 have hl:=hg.ok.lead
 have hs:=hg.ok.sums
 have hkn:=hg.ok.known
 have:=ZoW (t:=p.ft) (p:=p.fp) (a:=p.fa) (n:=p.tracks.length) (rows:=Zbr p.tracks 0 k) hg.w0ok hg.w0n (Zp8 hg.ok.tracks (Int.le_refl _)) (by rw [Zdk,hg.w0tick];omega)
 rw [Zdk,hg.w0tick] at this
 exact ⟨this.1,by rw [Ztk,this.2.1];omega,this.2.2.1.trans hg.w0level,this.2.2.2,hg.sums k (by omega),by omega,by omega⟩
theorem ZtL {m:Nat} {p:Pr} (h:Zsw m p):Ztk p p.base.tick.toNat=p.base:=h.good.base.symm
theorem ZsR {m:Nat} {p:Pr} (h:Zsw m p) {k:Nat} (hk:(k:Int)≤p.base.tick):Zbx p k=some (Ztk p k):=by
 have hp:=h.good.ok
 have hkn:=hp.known
 unfold Zbx Ztk
 rw [if_pos ⟨Zbq.2 hp,by omega,by omega⟩,ZnJ hp,Int.toNat_natCast]
end Go.Proofs.YthfaongbpdnlnaaGreat
