/- What is proved: contracts on repairing what was wrong. Conditions: as each lemma says. -/
import Derived.Test.YthfaongbpdnlnaaGreatQPC
import Derived.Test.YthfaongbpdnlnaaGreatQT103
import Derived.Test.YthfaongbpdnlnaaGreatQT93d
import Derived.Test.YthfaongbpdnlnaaGreatQT35ud
namespace Go.Proofs.YthfaongbpdnlnaaGreat
set_option maxHeartbeats 4000000
set_option maxRecDepth 20000
set_option linter.unusedSimpArgs false
set_option linter.unusedVariables false
open Go.RowKit Ab
theorem ZtE (fr tk fs stk sm tm ec:Int) (ins acks:List Int):AC Tryz.prog 202 [.agg [.t (.int .i64 fr),.t (.int .i64 tk),.t (.int .i64 fs),.t (ints 3 ins),.t (ints 3 acks),.t (.int .i64 stk),.t (.int .i64 sm),.t (.int .i64 tm),.t (.int .i64 ec)]] (.t (.bool (ZhP fr tk fs ins acks stk sm tm ec))):=by
  have hi:=Zjl ins
  refine AC.go Tryz.func202 Tryz.ntmps202 fun B W hr=>?_
  obtain ⟨us,hus⟩:=hr
  have hl:=(Zga (ZjG hus (i:=0) (k:=4) rfl rfl)).1
  have hl2:=(Zga (ZjG hus (i:=0) (k:=3) rfl rfl)).1
  clear hus
  repeat' (first|refine pa ?_|(refine pb ?_ ?_<;>intro hg)|(refine z9 ?_;(first|refine Zaa hi ?_|refine Zaa (Zah _ _ _) ?_))|refine po ?_|fail)
  refine aW.loopF rfl (fun q:Nat=>[(3,.t (.int .i64 q))]) [(1,_)] (fun q=>[]) [(1,_,_)] (fun q=>q≤acks.length∧ZsB (acks.take q)=true) (fun q=>acks.length - q) 0 ⟨Nat.zero_le _,rfl⟩ (by (exact plei)) ?_
  rintro k ⟨hk,hok⟩
  refine pln ?_
  repeat' (first|refine pa ?_|(refine pb ?_ ?_<;>intro hg)|(refine z9 ?_;(first|refine Zaa hi ?_|refine Zaa (Zah _ _ _) ?_))|refine po ?_|fail)
  all_goals first
    | (exact ⟨k + 1,⟨by omega,Zjm (by omega) hok (by simpa using hg)⟩,by omega,by (exact ple)⟩)
    | (have ha:ZsB acks=false:=ZlS (k:=k) (by omega) (by simpa using hg)
       (refine pfin ?_;refine .inl (congrArg T.bool ?_);(try simp only [Bool.not_eq_true',Bool.not_eq_false'] at *);(first|(simp only [ZhP, *,Bool.and_true,Bool.and_false,Bool.false_and,Bool.true_and,Bool.and_self,Bool.not_true,Bool.not_false];done)|(simp [ZhP, *];done))))
    | (have ha:ZsB acks=true:=ZlT (by omega) hok
       first
         | (have h40:decide (ins.length≤40)=true:=decide_eq_true (by omega)
            (refine pfin ?_;refine .inl (congrArg T.bool ?_);(try simp only [Bool.not_eq_true',Bool.not_eq_false'] at *);(first|(simp only [ZhP, *,Bool.and_true,Bool.and_false,Bool.false_and,Bool.true_and,Bool.and_self,Bool.not_true,Bool.not_false];done)|(simp [ZhP, *];done))))
         | (have h40:decide (ins.length≤40)=false:=decide_eq_false (by omega)
            (refine pfin ?_;refine .inl (congrArg T.bool ?_);(try simp only [Bool.not_eq_true',Bool.not_eq_false'] at *);(first|(simp only [ZhP, *,Bool.and_true,Bool.and_false,Bool.false_and,Bool.true_and,Bool.and_self,Bool.not_true,Bool.not_false];done)|(simp [ZhP, *];done))))
         | (refine pfin ?_;refine .inl (congrArg T.bool ?_);(try simp only [Bool.not_eq_true',Bool.not_eq_false'] at *);(first|(simp only [ZhP, *,Bool.and_true,Bool.and_false,Bool.false_and,Bool.true_and,Bool.and_self,Bool.not_true,Bool.not_false];done)|(simp [ZhP, *];done))))
theorem Zs0 (xs ys:List Int):Zbl (xs++ys)=(Zbl xs && Zbl ys):=by simp [Zbl]
theorem ZsU {xs:List Int} (h:∀ k (hk:k < xs.length),0≤xs[k]∧xs[k]≤15):Zbl xs=true:=by
 unfold Zbl
 rw [List.all_eq_true]
 intro x hx
 obtain ⟨i,hi,rfl⟩:=List.getElem_of_mem hx
 exact Zae.2 (h i hi)
theorem ZuB {t ins:List Int} {f:Nat} (ht:ZaH t=true) (hf:f≤t.length) (ha:Zsq t f ins=true):ZaH (Zsl t f ins)=Ztj t f ins:=by
 have ht':=ht
 unfold ZaH at ht
 rw [Bool.and_eq_true,decide_eq_true_eq] at ht
 obtain ⟨hl,hi⟩:=ht
 unfold Ztj
 rw [ht']
 simp only [Bool.true_and,Int.toNat_natCast,ha,Bool.and_true]
 rw [decide_eq_true (show (0:Int)≤f∧(f:Int)≤t.length by omega),Bool.true_and]
 unfold ZaH
 rw [ZsF hf]
 by_cases h1:(ins.length:Int)≤400 - f
 ·rw [decide_eq_true h1,decide_eq_true (show max t.length (f + ins.length)≤400 by omega),Bool.true_and,Bool.true_and]
  unfold Zsl
  rw [Zs0,hi,Bool.true_and,Bool.eq_iff_iff]
  constructor
  ·intro h
   refine ZsU fun k hk=>?_
   by_cases e:f + k < t.length
   ·unfold Zsq at ha
    rw [decide_eq_true_eq] at ha
    have:=ha k hk e
    simp [List.getD_eq_getElem?_getD,e,hk] at this
    rw [← this]
    exact Zkw hi e
   ·have hk':k - (t.length - f) < (ins.drop (t.length - f)).length:=by simp;omega
    have:=Zkw h hk'
    rw [List.getElem_drop] at this
    simpa [show t.length - f + (k - (t.length - f))=k by omega] using this
  ·intro h
   refine ZsU fun k hk=>?_
   rw [List.getElem_drop]
   exact Zkw h _
 ·rw [decide_eq_false h1,decide_eq_false (by omega)]
  rfl
theorem ZsO {X Y:Prop} (h:Y) (r:Hld Y→X:=by intro h;exact pdr [] 10 (by (apply pct 10 1023 0;(focus (intro hd7;(apply pct 10 255 2;(focus (intro hd6;(apply pct 10 127 3;(focus (intro hd5;(apply pct 10 125 4;(focus (intro hd4;(apply pct 10 63 4;(focus (intro hd3;(apply pct 10 61 5;(focus (intro hd2;(apply pct 10 31 5;(focus (intro hd1;(refine ZaC 0 ?_<;>refine pt0_ 2 ?_<;>refine pt0_ 3 ?_<;>refine Za7 4 ?_<;>(refine pq2 1 5 ?_ ?_;(focus ((refine pop ?_;refine pk7 ?_)<;>(exact ptm hd1)));(focus ((refine pop ?_;refine pk7 ?_)<;>(exact ptm hd2)))))));(case main=>((refine pq1 5 ?_;(focus ((refine pop ?_;refine pk7 ?_)<;>(exact ptm hd3)))))))));(case main=>((refine pq2 1 6 ?_ ?_;(focus ((refine pop ?_;refine pk7 ?_)<;>(exact ptw hd3)));(focus ((refine pop ?_;refine pk6 ?_)<;>(exact ptm hd4)))))))));(case main=>((refine pq1 6 ?_;(focus ((refine pop ?_;refine pk6 ?_)<;>(exact ptm hd5)))))))));(case main=>((refine pq1 1 ?_;(focus ((refine pop ?_;refine pk7 ?_)<;>(exact ptw hd5)))))))));(case main=>((refine pq1 7 ?_;(focus ((refine pop ?_;refine pk20 ?_)<;>(exact ptm hd6)))))))));(case main=>(refine ZaC 8 ?_<;>(refine pq1 9 ?_;(focus ((refine pop ?_;refine pk8 ?_)<;>(exact ptm hd7)))))))));(case main=>((refine ZaI ?_;exact ZaJ))))) h.out):X:=r ⟨h⟩
theorem ZsP {X Y:Prop} (h:Y) (r:Hld Y→X:=by intro h;(apply pdq 12;(focus exact pdp);(focus ((refine ZaC 0 ?_<;>refine pt7_ 1 ?_<;>refine pt0_ 2 ?_<;>refine pt0_ 3 ?_<;>refine Zbh 4 ?_<;>refine Za7 5 ?_<;>refine pt7_ 6 ?_<;>refine pt0_ 7 ?_<;>refine pt0_ 8 ?_<;>refine Za7 9 ?_<;>refine pt7_ 10 ?_<;>refine Zbh 11 ?_<;>(refine ZaI ?_;exact ZaJ)))));exact h.out):X:=r ⟨h⟩
theorem Ztu (t:List Int) (first:Int) (ins:List Int) (ht:t.length≤1048576) (hil:ins.length≤1048576):AC Tryz.prog 203 [.agg [.t (ints 3 t)],.t (.int .i64 first),.t (ints 3 ins)]
  (.tup [.agg [.fr true 3 (Zak (Zka t first ins).1)],.t (.bool (Zka t first ins).2)]):=by
 have hct:=ZlQ t ht
 have hok:=Zhu t
 have htl:=Zal t
 have hle:=Zal ins
 by_cases hpre:ZaH t=true∧0≤first∧first≤t.length
 ·obtain ⟨h1,h2,h3⟩:=hpre
  obtain ⟨f,rfl⟩:=Int.eq_ofNat_of_zero_le h2
  have hf:f≤t.length:=by omega
  have hir:inR (f:Int) 0 t.length=true:=Zae.2 ⟨h2,h3⟩
  rw [h1] at hok
  refine AC.go Tryz.func203 Tryz.ntmps203 fun B W hr=>?_
  repeat' (first|refine pa ?_|(refine pb ?_ ?_<;>intro hg)|(refine z9 ?_;(first|refine Zaa hok ?_|refine Zaa ((Zah _ _ _)) ?_|refine pz3 hct ?_))|refine po ?_|(refine ZsO ?_)|(refine ZsP ?_)|fail)
  refine aW.loopF rfl (fun q:Nat×Nat×List Int=>[(9,.t (.int .i64 q.1))]) [(1,_),(2,_),(3,_),(6,_),(8,_)] (fun q=>[(8,1,.box 46 [.hnd 11000 q.2.1]),(11000,q.2.1,.row true true 3 (Zak q.2.2))]) [(3,_,_),(6,_,_)] (fun q=>q.1≤ins.length∧q.2.2=Zsl t f (ins.take q.1)∧Zsq t f (ins.take q.1)=true) (fun q=>ins.length - q.1) (0,1,t) ⟨Nat.zero_le _,(Zuk t f).symm,ZtV t f⟩ (by (exact plei)) ?_
  rintro ⟨k,ep,zs⟩ hI
  obtain ⟨hk,hz,ha⟩:k≤ins.length∧zs=Zsl t f (ins.take k)∧Zsq t f (ins.take k)=true:=hI
  subst hz
  have hel2:(Zsl t f (ins.take k)).length=max t.length (f + min k ins.length):=by rw [ZsF hf,List.length_take]
  have hel:(Zak (Zsl t f (ins.take k))).length=(Zsl t f (ins.take k)).length:=Zal _
  have h400:=Zei h1
  refine pln ?_
  by_cases hkn:k < ins.length
  ·have hmx:max t.length (f + min k ins.length)≤1049000:=by omega
   have hel3:(Zsl t f (ins.take k)).length≤1049000:=by omega
   by_cases hft:f + k < t.length
   ·have hel4:(Zsl t f (ins.take k)).length=t.length:=by omega
    have hgd:(Zsl t f (ins.take k)).getD (f + k) default=t.getD (f + k) default:=by
     unfold Zsl
     rw [List.getD_eq_getElem?_getD,List.getElem?_append_left hft,← List.getD_eq_getElem?_getD]
    by_cases hx:(Zsl t f (ins.take k)).getD (f + k) default=ins.getD k default
    ·repeat' (first|refine pa ?_|(refine pb ?_ ?_<;>intro hg)|refine po ?_|(refine ZsO ?_)|(refine ZsP ?_)|fail)
     have hd:Zsl t f (ins.take (k + 1))=Zsl t f (ins.take k):=by rw [Ztl hkn hf,if_pos hft]
     exact ⟨(k + 1,ep,Zsl t f (ins.take k)),⟨hkn,hd.symm,ZsQ hkn ha fun h=>by rwa [← Zb6 hft,← Zb6 hkn,← hgd]⟩,by show ins.length - (k + 1) < ins.length - k;omega,by (exact ple)⟩
    ·have hno:Zka t f ins=(t,false):=by
      rw [Zka,if_neg]
      intro hc
      rw [hgd] at hx
      have hag:=ZtW hkn hft (by rwa [← Zb6 hft,← Zb6 hkn])
      unfold Ztj at hc
      rw [Int.toNat_natCast,hag,Bool.and_false] at hc
      cases hc
     rw [hno]
     repeat' (first|refine pa ?_|(refine pb ?_ ?_<;>intro hg)|(refine z9 ?_;(refine pz3 hct ?_))|refine po ?_|(refine ZsO ?_)|(refine ZsP ?_)|fail)
     exact pfg
   ·have hel4:(Zsl t f (ins.take k)).length≤f + k:=by omega
    repeat' (first|refine pa ?_|(refine pb ?_ ?_<;>intro hg)|refine po ?_|(refine ZsO ?_)|(refine ZsP ?_)|fail)
    exact ⟨(k + 1,ep + 1,Zsl t f (ins.take (k + 1))),⟨hkn,rfl,ZsQ hkn ha fun h=>absurd h hft⟩,by show ins.length - (k + 1) < ins.length - k;omega,by rw [Zuj hkn hf hft];(exact ple)⟩
  ·have hk':k=ins.length:=by omega
   subst hk'
   rw [List.take_length] at ha
   have hto:=Zhu (Zsl t f ins)
   rw [ZuB h1 hf ha] at hto
   rw [List.take_length]
   cases hao:Ztj t f ins with
   | false =>
    rw [hao] at hto
    rw [show Zka t f ins=(t,false) by rw [Zka,if_neg (by rw [hao];decide)]]
    repeat' (first|refine pa ?_|(refine pb ?_ ?_<;>intro hg)|(refine z9 ?_;(first|refine Zaa hto ?_|refine pz3 hct ?_))|refine po ?_|(refine ZsO ?_)|(refine ZsP ?_)|fail)
    exact pfg
   | true =>
    rw [hao] at hto
    rw [show Zka t f ins=(Zsl t f ins,true) by rw [Zka,if_pos hao];rfl]
    repeat' (first|refine pa ?_|(refine pb ?_ ?_<;>intro hg)|(refine z9 ?_;(refine Zaa hto ?_))|refine po ?_|(refine ZsO ?_)|(refine ZsP ?_)|fail)
    exact pfg
 ·have hno:Zka t first ins=(t,false):=by
   rw [Zka,if_neg]
   intro hc
   unfold Ztj at hc
   simp only [Bool.and_eq_true,decide_eq_true_eq] at hc
   exact hpre ⟨hc.1.1.1.1,hc.1.1.1.2.1,hc.1.1.1.2.2⟩
  rw [hno]
  by_cases h1:ZaH t=true
  ·rw [h1] at hok
   have hir:inR first 0 t.length=false:=Zb3 fun e=>hpre ⟨h1,e⟩
   refine AC.go Tryz.func203 Tryz.ntmps203 fun B W hr=>?_
   repeat' (first|refine pa ?_|(refine pb ?_ ?_<;>intro hg)|(refine z9 ?_;(first|refine Zaa hok ?_|refine Zaa ((Zah _ _ _)) ?_|refine pz3 hct ?_))|refine po ?_|(refine ZsO ?_)|(refine ZsP ?_)|fail)
   exact pfg
  ·rw [Bool.not_eq_true] at h1
   rw [h1] at hok
   refine AC.go Tryz.func203 Tryz.ntmps203 fun B W hr=>?_
   repeat' (first|refine pa ?_|(refine pb ?_ ?_<;>intro hg)|(refine z9 ?_;(first|refine Zaa hok ?_|refine pz3 hct ?_))|refine po ?_|(refine ZsO ?_)|(refine ZsP ?_)|fail)
   exact pfg
theorem Zth (ts:TS) (fr tk fs stk sm tm ec:Int) (ins acks:List Int) (hn:ts.length≤1048576) (hx:∀ k,k < ts.length→(ts.getD k default).length≤1048576):AC Tryz.prog 138 [.t (.lst false 46 (ts.map trackC)),.agg [.t (.int .i64 fr),.t (.int .i64 tk),.t (.int .i64 fs),.t (ints 3 ins),.t (ints 3 acks),.t (.int .i64 stk),.t (.int .i64 sm),.t (.int .i64 tm),.t (.int .i64 ec)]]
  (.tup [.fr false 46 ((ZtB ts fr tk fs ins acks stk sm tm ec).1.map trackC),.t (.bool (ZtB ts fr tk fs ins acks stk sm tm ec).2)]):=by
 have hct:=Zir ts hn hx
 have hto:=ZeA ts
 have hpo:=ZtE fr tk fs stk sm tm ec ins acks
 have hal:=Zal acks
 have htl:(ts.map trackC).length=ts.length:=List.length_map _
 by_cases h1:Zan ts=true
 case neg =>
  rw [show ZtB ts fr tk fs ins acks stk sm tm ec=(ts,false) from if_neg fun e=>h1 e.1]
  rw [Bool.not_eq_true] at h1
  rw [h1] at hto
  refine AC.go Tryz.func138 Tryz.ntmps138 fun B W hr=>?_
  repeat' (first|refine pa ?_|(refine pb ?_ ?_<;>intro hg)|(refine z9 ?_;(first|refine Zaa hto ?_|refine pz3 hct ?_))|refine po ?_|fail)
  exact pfg
 rw [h1] at hto
 by_cases h2:ZhP fr tk fs ins acks stk sm tm ec=true
 case neg =>
  rw [show ZtB ts fr tk fs ins acks stk sm tm ec=(ts,false) from if_neg fun e=>h2 e.2.1]
  rw [Bool.not_eq_true] at h2
  rw [h2] at hpo
  refine AC.go Tryz.func138 Tryz.ntmps138 fun B W hr=>?_
  repeat' (first|refine pa ?_|(refine pb ?_ ?_<;>intro hg)|(refine z9 ?_;(first|refine Zaa hto ?_|refine Zaa hpo ?_|refine pz3 hct ?_))|refine po ?_|fail)
  exact pfg
 rw [h2] at hpo
 by_cases h3:acks.length=ts.length
 case neg =>
  rw [show ZtB ts fr tk fs ins acks stk sm tm ec=(ts,false) from if_neg fun e=>h3 e.2.2]
  refine AC.go Tryz.func138 Tryz.ntmps138 fun B W hr=>?_
  repeat' (first|refine pa ?_|(refine pb ?_ ?_<;>intro hg)|(refine z9 ?_;(first|refine Zaa hto ?_|refine Zaa hpo ?_|refine pz3 hct ?_))|refine po ?_|fail)
  exact pfg
 have hT:ZtB ts fr tk fs ins acks stk sm tm ec=if (Zka (ts.getD fr.toNat default) fs ins).2=true then (ts.set fr.toNat (Zka (ts.getD fr.toNat default) fs ins).1,true) else (ts,false):=if_pos ⟨h1,h2,h3⟩
 obtain ⟨q1,q2,q3,q4,q5,q6,q7,q8⟩:=Zsy h2
 obtain ⟨f,rfl⟩:=Int.eq_ofNat_of_zero_le q3
 have hf:f < ts.length:=by omega
 have hai:=Ztu (ts.getD f default) fs ins (hx f hf) (by omega)
 rw [Int.toNat_natCast] at hT
 by_cases hb:(Zka (ts.getD f default) fs ins).2=true
 ·rw [if_pos hb] at hT
  rw [hb] at hai
  rw [hT]
  generalize (Zka (ts.getD f default) fs ins).1=nw at hai hT
  have hms:(ts.set f nw).map trackC=(ts.map trackC).set f [.lst true 3 (Zak nw)]:=by rw [List.map_set];rfl
  dsimp only
  rw [hms]
  refine AC.go Tryz.func138 Tryz.ntmps138 fun B W hr=>?_
  repeat' (first|refine pa ?_|(refine pb ?_ ?_<;>intro hg)|refine Zvh ?_|(refine z9 ?_;(first|refine Zaa hto ?_|refine Zaa hpo ?_|refine pz3 hct ?_|refine pz3 hai ?_))|refine po ?_|(refine pdr [] 16 (by (apply pct 16 32767 1;(focus (intro hd5;(apply pct 16 9215 5;(focus (intro hd4;(apply pct 16 16383 2;(focus (intro hd3;(apply pct 16 8703 6;(focus (intro hd2;(apply pct 16 1023 6;(focus (intro hd1;(refine pt0_ 0 ?_<;>refine ZaC 1 ?_<;>refine pt7_ 2 ?_<;>refine Za7 3 ?_<;>refine pt7_ 4 ?_<;>refine ZaC 5 ?_<;>refine pt7_ 6 ?_<;>refine ZaC 7 ?_<;>refine pt7_ 8 ?_<;>(refine pq2 9 13 ?_ ?_;(focus ((refine pop ?_;(refine z9 ?_;(refine pz3 hai ?_)))<;>(exact ptm hd1)));(focus ((refine pop ?_;refine pk3 ?_)<;>(exact ptm hd2)))))));(case main=>(refine pt0_ 10 ?_<;>refine Zes 11 ?_<;>refine Zes 12 ?_<;>(refine pq1 13 ?_;(focus ((refine pop ?_;refine pk3 ?_)<;>(exact ptm hd3)))))))));(case main=>((refine pq1 9 ?_;(focus ((refine pop ?_;(refine z9 ?_;(refine pz3 hai ?_)))<;>(exact ptm hd4)))))))));(case main=>((refine pq1 14 ?_;(focus ((refine pop ?_;(first|refine Zvh ?_|refine pk8 ?_))<;>(exact ptm hd5)))))))));(case main=>(refine pt0_ 10 ?_<;>refine Zes 11 ?_<;>refine Zes 12 ?_<;>(refine pq1 14 ?_;(focus ((refine pop ?_;(first|refine Zvh ?_|refine pk8 ?_))<;>(exact ptw hd5)))))))));(case main=>(refine pt1_ 15 ?_<;>(refine ZaI ?_;exact ZaJ))))) ?_)|(refine T35d2 ?_)|fail)
  exact pfg
 ·rw [if_neg hb] at hT
  rw [Bool.not_eq_true] at hb
  rw [hb] at hai
  rw [hT]
  refine AC.go Tryz.func138 Tryz.ntmps138 fun B W hr=>?_
  repeat' (first|refine pa ?_|(refine pb ?_ ?_<;>intro hg)|(refine z9 ?_;(first|refine Zaa hto ?_|refine Zaa hpo ?_|refine pz3 hct ?_|refine pz3 hai ?_))|refine po ?_|(refine pdr [] 16 (by (apply pct 16 32767 1;(focus (intro hd5;(apply pct 16 9215 5;(focus (intro hd4;(apply pct 16 16383 2;(focus (intro hd3;(apply pct 16 8703 6;(focus (intro hd2;(apply pct 16 1023 6;(focus (intro hd1;(refine pt0_ 0 ?_<;>refine ZaC 1 ?_<;>refine pt7_ 2 ?_<;>refine Za7 3 ?_<;>refine pt7_ 4 ?_<;>refine ZaC 5 ?_<;>refine pt7_ 6 ?_<;>refine ZaC 7 ?_<;>refine pt7_ 8 ?_<;>(refine pq2 9 13 ?_ ?_;(focus ((refine pop ?_;(refine z9 ?_;(refine pz3 hai ?_)))<;>(exact ptm hd1)));(focus ((refine pop ?_;refine pk3 ?_)<;>(exact ptm hd2)))))));(case main=>(refine pt0_ 10 ?_<;>refine Zes 11 ?_<;>refine Zes 12 ?_<;>(refine pq1 13 ?_;(focus ((refine pop ?_;refine pk3 ?_)<;>(exact ptm hd3)))))))));(case main=>((refine pq1 9 ?_;(focus ((refine pop ?_;(refine z9 ?_;(refine pz3 hai ?_)))<;>(exact ptm hd4)))))))));(case main=>((refine pq1 14 ?_;(focus ((refine pop ?_;refine pk8 ?_)<;>(exact ptm hd5)))))))));(case main=>(refine pt0_ 10 ?_<;>refine Zes 11 ?_<;>refine Zes 12 ?_<;>(refine pq1 14 ?_;(focus ((refine pop ?_;refine pk8 ?_)<;>(exact ptw hd5)))))))));(case main=>(refine pt1_ 15 ?_<;>(refine ZaI ?_;exact ZaJ))))) ?_)|(refine T35d2 ?_)|fail)
  exact pfg
theorem Znq (p:Pr) (t:Int) (hp:Zeq p) (hd:Zc0 p) (v:Pr) (hv:v=(Zcv p t).getD p):AC Tryz.prog 39 [.agg (pcR p),.t (.int .i64 t)] (.tup [.agg (pcF v),.t (.bool (Zcv p t).isSome)]):=by
 have hcp:=ZjY p hp
 dsimp only [pcR,pcF] at hcp
 have hsa:=Ziy p t hp hd _ rfl
 dsimp only [pcR] at hsa
 cases hs:Zbn p t with
 | none =>
  rw [hs] at hsa
  rw [ZoU hs] at hv ⊢
  dsimp only [Option.getD_none,Option.isSome_none] at hv hsa ⊢
  subst hv
  refine AC.go Tryz.func39 Tryz.ntmps39 fun B W hr=>?_
  dsimp only [pcR,pcF]
  repeat' (first|refine pa ?_|(refine pb ?_ ?_<;>intro hg)|(refine z9 ?_;(first|refine pz3 hcp ?_|refine pz3 hsa ?_))|refine po ?_|fail)
  exact pfg
 | some w =>
  obtain ⟨⟨h1,h2,h3⟩,hw,hl,ht,hn⟩:=Zgc hs
  have hq:=Zme hs
  have hpp:=Zbq.1 h1
  have hu:=hpp.used
  have hsv:=hpp.saves
  have hbt:=hpp.base.tick
  have hpv:=hp.saves
  have hpu:=hp.used.1
  rw [hs] at hsa
  rw [Zm0 hs] at hv ⊢
  dsimp only [Option.getD_some,Option.isSome_some] at hv hsa ⊢
  obtain ⟨k,hk⟩:=Int.eq_ofNat_of_zero_le (show 0≤t - p.base.tick by omega)
  have hkt:t=p.base.tick + k:=by omega
  have hks:k < p.saves.length:=by omega
  have hku:k < p.used.length:=by omega
  unfold ZhB at hv
  rw [hk,Int.toNat_natCast] at hv
  have hpo:=Zgp v (by rw [hv];exact hp.tracks.1)
  dsimp only [pcR] at hpo
  rw [show Zb9 v=true by rw [hv];unfold ZhB at hq;rw [hk,Int.toNat_natCast] at hq;exact Zbq.2 hq] at hpo
  rw [hv] at hpo ⊢
  dsimp only at hpo ⊢
  have e1:List.take ((t - p.base.tick).toNat - (0:Int).toNat) (List.drop (0:Int).toNat p.saves)=p.saves.take k:=by rw [hk];rfl
  have e2:List.take ((t - p.base.tick).toNat - (0:Int).toNat) (List.drop (0:Int).toNat p.used)=p.used.take k:=by rw [hk];rfl
  have hsl:(p.saves.map saveC).length=p.saves.length:=List.length_map _
  have hul:(p.used.map trackC).length=p.used.length:=List.length_map _
  rw [← e1,← e2] at hpo ⊢
  refine AC.go Tryz.func39 Tryz.ntmps39 fun B W hr=>?_
  dsimp only [pcR,pcF]
  repeat' (first|refine pa ?_|(refine pb ?_ ?_<;>intro hg)|refine ZkW ?_|(refine z9 ?_;(first|refine Zaa hpo ?_|refine pz3 hcp ?_|refine pz3 hsa ?_))|refine po ?_|fail)
  exact pfg
theorem Zrm (p:Pr) (hp:Zeq p) (h1:¬ ZnB p=true) (v:Pr) (hv:v=(ZpB p).getD p):advS 19 p v (ZpB p).isSome:=by
 unfold advS
 have hcp:=ZjY p hp
 dsimp only [pcR,pcF] at hcp
 have hca:=Zqn p hp
 dsimp only [pcR] at hca
 rw [Zro h1] at hv ⊢
 rw [Bool.not_eq_true] at h1
 rw [h1] at hca
 dsimp only [Option.getD_none,Option.isSome_none] at hv ⊢
 subst hv
 refine AC.go Tryz.func19 Tryz.ntmps19 fun B W hr=>?_
 repeat' (first|refine pa ?_|(refine pb ?_ ?_<;>intro hg)|(refine z9 ?_;(first|refine Zaa hca ?_|refine pz3 hcp ?_))|refine po ?_|fail)
 exact pfg
theorem Zq9 (p:Pr) (hp:Zeq p) (hd:Zc0 p) (h1:ZnB p=true) (h0:p.saves.length ≠ 0) (hs:Zbn p (p.saves.getD (p.saves.length - 1) default).1=none) (v:Pr) (hv:v=(ZpB p).getD p):advS 19 p v (ZpB p).isSome:=by
 unfold advS
 have hcp:=ZjY p hp
 dsimp only [pcR,pcF] at hcp
 have hca:=Zqn p hp
 dsimp only [pcR] at hca
 rw [h1] at hca
 obtain ⟨hpp,hu8,hmt⟩:=Zqj h1
 have hsl:(p.saves.map saveC).length=p.saves.length:=List.length_map _
 have hul:(p.used.map trackC).length=p.used.length:=List.length_map _
 have hse:=hpp.saves
 have hus:=hpp.used
 have hld:=hpp.lead
 have hah:=hpp.ahead
 have hps:=hp.saves
 have hbt:=hpp.base.tick
 have hnt:=hpp.now.tick
 have hix:(p.saves.length:Int) - 1=((p.saves.length - 1:Nat):Int):=by omega
 have hsa:=Ziy p (p.saves.getD (p.saves.length - 1) default).1 hp hd _ rfl
 dsimp only [pcR] at hsa
 rw [Zqq h1 h0 hs] at hv ⊢
 rw [hs] at hsa
 dsimp only [Option.getD_none,Option.isSome_none,Option.map_none] at hv hsa ⊢
 have hwb:=Zii p.base
 subst hv
 refine AC.go Tryz.func19 Tryz.ntmps19 fun B W hr=>?_
 repeat' (first|refine pa ?_|(refine pb ?_ ?_<;>intro hg)|refine ZnM ?_|(refine z9 ?_;(first|refine Zaa hca ?_|refine Zaa hwb ?_|refine pz3 hcp ?_|refine pz3 hsa ?_))|refine po ?_|((apply pdq 7;(focus exact pdp);(focus ((apply pct 7 63 1;(focus (intro hd3;(apply pct 7 31 2;(focus (intro hd2;(apply pct 7 15 3;(focus (intro hd1;(refine pt7_ 0 ?_<;>refine ZaC 2 ?_<;>refine pt7_ 3 ?_<;>(refine pq1 1 ?_;(focus ((refine pop ?_;(refine z9 ?_;(refine Zaa hwb ?_)))<;>(exact ptm hd1)))))));(case main=>((refine pq1 4 ?_;(focus ((refine pop ?_;(refine z9 ?_;(refine Zaa hwb ?_)))<;>(exact ptm hd2)))))))));(case main=>((refine pq1 5 ?_;(focus ((refine pop ?_;(refine z9 ?_;(fail)))<;>(exact ptm hd3)))))))));(case main=>(refine pt1_ 6 ?_<;>(refine ZaI ?_;exact ZaJ))))))))|(refine pdr [1] 17 (by (apply pct 17 65535 1;(focus (intro hd5;(apply pct 17 18431 5;(focus (intro hd4;(apply pct 17 32767 2;(focus (intro hd3;(apply pct 17 17407 6;(focus (intro hd2;(apply pct 17 2047 6;(focus (intro hd1;(refine pt7_ 0 ?_<;>refine ZaC 1 ?_<;>refine pt7_ 2 ?_<;>refine ZaC 3 ?_<;>refine pt7_ 4 ?_<;>refine Ziv 5 ?_<;>refine Zbh 6 ?_<;>(refine pti 7 ?_;(first|refine ZrQ ?_|refine pq17 ?_))<;>refine ZaC 8 ?_<;>refine pt7_ 9 ?_<;>(refine pq2 10 14 ?_ ?_;(focus ((refine pop ?_;(refine z9 ?_;(refine pz3 hsa ?_)))<;>(exact ptm hd1)));(focus ((refine pop ?_;refine pk3 ?_)<;>(exact ptm hd2)))))));(case main=>(refine pt0_ 11 ?_<;>refine Zes 12 ?_<;>refine Zes 13 ?_<;>(refine pq1 14 ?_;(focus ((refine pop ?_;refine pk3 ?_)<;>(exact ptm hd3)))))))));(case main=>((refine pq1 10 ?_;(focus ((refine pop ?_;(refine z9 ?_;(refine pz3 hsa ?_)))<;>(exact ptm hd4)))))))));(case main=>((refine pq1 15 ?_;(focus ((refine pop ?_;refine pk8 ?_)<;>(exact ptm hd5)))))))));(case main=>(refine pt0_ 11 ?_<;>refine Zes 12 ?_<;>refine Zes 13 ?_<;>(refine pq1 15 ?_;(focus ((refine pop ?_;refine pk8 ?_)<;>(exact ptw hd5)))))))));(case main=>(refine pt1_ 16 ?_<;>(refine ZaI ?_;exact ZaJ))))) ?_)|fail)
 exact pfg
theorem Zra (p:Pr) (hp:Zeq p) (hd:Zc0 p) (h1:ZnB p=true) (h0:p.saves.length ≠ 0) (w:Wd) (hs:Zbn p (p.saves.getD (p.saves.length - 1) default).1=some w) (v:Pr) (hv:v=(ZpB p).getD p):advS 19 p v (ZpB p).isSome:=by
 unfold advS
 have hcp:=ZjY p hp
 dsimp only [pcR,pcF] at hcp
 have hca:=Zqn p hp
 dsimp only [pcR] at hca
 rw [h1] at hca
 obtain ⟨hpp,hu8,hmt⟩:=Zqj h1
 have hsl:(p.saves.map saveC).length=p.saves.length:=List.length_map _
 have hul:(p.used.map trackC).length=p.used.length:=List.length_map _
 have hse:=hpp.saves
 have hus:=hpp.used
 have hld:=hpp.lead
 have hah:=hpp.ahead
 have hps:=hp.saves
 have hbt:=hpp.base.tick
 have hnt:=hpp.now.tick
 have hra:=ZjX p.tracks p.now.tick
 obtain ⟨l1,l2,l3⟩:=hp.now
 have hfs:=Zif p.now (Zpc p) p.ft p.fp p.fa l1 l2 l3 (Zqy p) rfl
 have hwn:=Zii p.now
 rw [show (rowV p.tracks p.now.tick).1=Zpc p from rfl] at hra
 have hix:(p.saves.length:Int) - 1=((p.saves.length - 1:Nat):Int):=by omega
 have hsa:=Ziy p (p.saves.getD (p.saves.length - 1) default).1 hp hd _ rfl
 dsimp only [pcR] at hsa
 have hwb0:=Zii p.base
 rw [Zqq h1 h0 hs] at hv ⊢
 rw [hs] at hsa
 dsimp only [Option.getD_some,Option.isSome_some,Option.map_some] at hv hsa ⊢
 have hwb:=Zii w
 have hdt:=Zqs (Zbp w) (Zbp p.now) (by have:=ZgG (w:=p.now);omega)
 unfold Zq1 at hv
 rw [hv]
 dsimp only
 rw [List.map_append,List.map_append]
 generalize Zqy p=nw at hfs ⊢
 generalize Zpc p=rw at hfs hra ⊢
 generalize Zbp p.now=bn at hwn hdt ⊢
 generalize Zbp w=bb at hwb hdt ⊢
 refine AC.go Tryz.func19 Tryz.ntmps19 fun B W hr=>?_
 repeat' (first|(refine pth ?_)|((fail_if_success (with_reducible first|refine pA1 13 ?_|refine pA2 13 ?_|refine pA3 13 ?_));(first|refine pc ?_|(refine pbc ?_ ?_<;>intro hg)))|(first|refine pl ?_|(refine pbl ?_ ?_<;>intro hg))|(first|refine ZaX ?_|refine ZnM ?_|(refine z9 ?_;(first|refine Zaa hca ?_|refine Zaa hwn ?_|refine Zaa hwb ?_|refine Zaa hwb0 ?_|refine Zaa hdt ?_|refine pz3 hcp ?_|refine pz3 hsa ?_|refine pz3 hra ?_))|refine po ?_)|((apply pdq 7;(focus exact pdp);(focus ((apply pct 7 63 1;(focus (intro hd3;(apply pct 7 31 2;(focus (intro hd2;(apply pct 7 15 3;(focus (intro hd1;(refine pt7_ 0 ?_<;>refine ZaC 2 ?_<;>refine pt7_ 3 ?_<;>(refine pq1 1 ?_;(focus ((refine pop ?_;(refine z9 ?_;(first|refine Zaa hwn ?_|refine Zaa hwb ?_|refine Zaa hwb0 ?_)))<;>(exact ptm hd1)))))));(case main=>((refine pq1 4 ?_;(focus ((refine pop ?_;(refine z9 ?_;(first|refine Zaa hwn ?_|refine Zaa hwb ?_|refine Zaa hwb0 ?_)))<;>(exact ptm hd2)))))))));(case main=>((refine pq1 5 ?_;(focus ((refine pop ?_;(refine z9 ?_;(refine Zaa hdt ?_)))<;>(exact ptm hd3)))))))));(case main=>(refine pt1_ 6 ?_<;>(refine ZaI ?_;exact ZaJ))))))))|(refine pdr [1] 17 (by (apply pct 17 65535 1;(focus (intro hd5;(apply pct 17 18431 5;(focus (intro hd4;(apply pct 17 32767 2;(focus (intro hd3;(apply pct 17 17407 6;(focus (intro hd2;(apply pct 17 2047 6;(focus (intro hd1;(refine pt7_ 0 ?_<;>refine ZaC 1 ?_<;>refine pt7_ 2 ?_<;>refine ZaC 3 ?_<;>refine pt7_ 4 ?_<;>refine Ziv 5 ?_<;>refine Zbh 6 ?_<;>(refine pti 7 ?_;(first|refine ZrQ ?_|refine pq17 ?_))<;>refine ZaC 8 ?_<;>refine pt7_ 9 ?_<;>(refine pq2 10 14 ?_ ?_;(focus ((refine pop ?_;(refine z9 ?_;(refine pz3 hsa ?_)))<;>(exact ptm hd1)));(focus ((refine pop ?_;refine pk3 ?_)<;>(exact ptm hd2)))))));(case main=>(refine pt0_ 11 ?_<;>refine Zes 12 ?_<;>refine Zes 13 ?_<;>(refine pq1 14 ?_;(focus ((refine pop ?_;refine pk3 ?_)<;>(exact ptm hd3)))))))));(case main=>((refine pq1 10 ?_;(focus ((refine pop ?_;(refine z9 ?_;(refine pz3 hsa ?_)))<;>(exact ptm hd4)))))))));(case main=>((refine pq1 15 ?_;(focus ((refine pop ?_;refine pk8 ?_)<;>(exact ptm hd5)))))))));(case main=>(refine pt0_ 11 ?_<;>refine Zes 12 ?_<;>refine Zes 13 ?_<;>(refine pq1 15 ?_;(focus ((refine pop ?_;refine pk8 ?_)<;>(exact ptw hd5)))))))));(case main=>(refine pt1_ 16 ?_<;>(refine ZaI ?_;exact ZaJ))))) ?_)|fail)
 (repeat refine pa ?_)
 refine pk15 ?_
 (repeat refine pa ?_)
 refine pk7 ?_
 (repeat refine pa ?_)
 refine pk0 ?_
 (repeat refine pa ?_)
 refine Zab (n:=6) ?_
 refine OpS.lit_hole rfl rfl rfl (Tryz.ti rfl) rfl (Tryz.ti rfl) rfl rfl rfl rfl rfl ?_
 (repeat refine pa ?_)
 refine z9 ?_
 refine OpS.append_hole rfl rfl rfl rfl (Tryz.ti rfl) rfl (Tryz.ti rfl) (.inr ⟨_,_,_,rfl⟩) (Tryz.ti rfl) rfl rfl rfl rfl rfl rfl rfl (by constructor<;>omega) ?_
 repeat' (first|(refine pth ?_)|((fail_if_success (with_reducible first|refine pA1 15 ?_|refine pA2 15 ?_|refine pA3 15 ?_));(first|refine pc ?_|(refine pbc ?_ ?_<;>intro hg)))|(first|refine pl ?_|(refine pbl ?_ ?_<;>intro hg))|(first|(refine z9 ?_;(refine pz3 hfs ?_))|refine po ?_)|fail)
 refine aW.ghost (Zco.close (o:=12015) (j:=47000) (s:=1) (c:=0) (i:=p.used.length) rfl rfl (by decide) (by have h:Zac Tryz.prog 27=some _:=Tryz.ti rfl;exact ZeD h) (by rw [hul];omega) (by decide) (by rw [List.length_append,hul];exact Nat.lt_succ_self _) (ZqM hul)) ?_
 dsimp only [St.upds,updl]
 repeat' (first|refine pa ?_|(refine pb ?_ ?_<;>intro hg)|refine po ?_|fail)
 exact pfg
theorem Zre (p:Pr) (hp:Zeq p) (hd:Zc0 p) (v:Pr) (hv:v=(ZpB p).getD p):AC Tryz.prog 19 [.agg (pcR p)] (.tup [.agg (pcF v),.t (.bool (ZpB p).isSome)]):=by
 by_cases h1:ZnB p=true
 case neg=>exact Zrm p hp h1 v hv
 by_cases h0:p.saves.length=0
 ·exact ZqR p hp hd h1 h0 v hv
 ·cases hs:Zbn p (p.saves.getD (p.saves.length - 1) default).1 with
  | none=>exact Zq9 p hp hd h1 h0 hs v hv
  | some w=>exact Zra p hp hd h1 h0 w hs v hv
theorem ZrM (p:Pr) (hp:Zeq p) (hd:Zc0 p) (v:Pr) (hv:v=(Zqk p).getD p):AC Tryz.prog 49 [.agg (pcR p)] (.tup [.agg (pcF v),.t (.bool (Zqk p).isSome)]):=by
 have hpo:=Zgp p hp.tracks.1
 dsimp only [pcR] at hpo
 have hcp:=ZjY p hp
 dsimp only [pcR,pcF] at hcp
 by_cases h1:Zb9 p=true
 case neg =>
  rw [ZrD h1] at hv ⊢
  rw [Bool.not_eq_true] at h1
  rw [h1] at hpo
  dsimp only [Option.getD_none,Option.isSome_none] at hv ⊢
  subst hv
  refine AC.go Tryz.func49 Tryz.ntmps49 fun B W hr=>?_
  dsimp only [pcR,pcF]
  repeat' (first|refine pa ?_|(refine pb ?_ ?_<;>intro hg)|(refine z9 ?_;(first|refine Zaa hpo ?_|refine pz3 hcp ?_))|refine po ?_|fail)
  exact pfg
 rw [h1] at hpo
 have hfw:=ZqH p hp
 dsimp only [pcR] at hfw
 by_cases h2:ZdR p < 0
 ·rw [Zrj h1 h2] at hv ⊢
  dsimp only [Option.getD_some,Option.isSome_some] at hv ⊢
  subst hv
  refine AC.go Tryz.func49 Tryz.ntmps49 fun B W hr=>?_
  dsimp only [pcR,pcF]
  repeat' (first|refine pa ?_|(refine pb ?_ ?_<;>intro hg)|(refine z9 ?_;(first|refine Zaa hpo ?_|refine Zaa hfw ?_|refine pz3 hcp ?_))|refine po ?_|fail)
  exact pfg
 have hrt:=Znq p (ZdR p) hp hd _ rfl
 dsimp only [pcR,pcF] at hrt
 cases hr:Zcv p (ZdR p) with
 | none =>
  rw [Zq3 h1 h2 hr] at hv ⊢
  rw [hr] at hrt
  dsimp only [Option.getD_none,Option.isSome_none] at hv hrt ⊢
  subst hv
  refine AC.go Tryz.func49 Tryz.ntmps49 fun B W hr=>?_
  dsimp only [pcR,pcF]
  repeat' (first|refine pa ?_|(refine pb ?_ ?_<;>intro hg)|(refine z9 ?_;(first|refine Zaa hpo ?_|refine Zaa hfw ?_|refine pz3 hcp ?_|refine pz3 hrt ?_))|refine po ?_|fail)
  exact pfg
 | some q0 =>
 rw [Zq2 h1 h2 hr] at hv ⊢
 rw [hr] at hrt
 dsimp only [Option.getD_some,Option.isSome_some] at hrt
 obtain ⟨r1,r2,r3,_,_⟩:=ZrE hr
 have rd:=ZrF hd hr
 have rl:=Zrk hp hr
 obtain ⟨R,hR⟩:∃ R,R=Zqm (p.now.tick - q0.now.tick).toNat p.now.tick q0:=⟨_,rfl⟩
 rw [← hR] at hv ⊢
 have hpr:0≤p.rolls∧p.rolls≤1000000:=(Zbq.1 h1).rolls
 have hpa:0≤p.again∧p.again≤1000000:=(Zbq.1 h1).again
 have hnt:=(Zbq.1 h1).now.tick
 have hfin:=Zrv (Zbq.1 h1) (by omega)
 have hbt:=(Zbq.1 h1).base.tick
 generalize hfe:ZdR p=fw at hfw hrt h2 hfin
 refine AC.go Tryz.func49 Tryz.ntmps49 fun B W hr=>?_
 dsimp only [pcR,pcF]
 repeat' (first|refine pa ?_|(refine pb ?_ ?_<;>intro hg)|(refine z9 ?_;(first|refine Zaa hpo ?_|refine Zaa hfw ?_|refine pz3 hcp ?_|refine pz3 hrt ?_))|refine po ?_|fail)
 refine aW.ghost (Zco.renameC (b:=4) (c:=4) (o:=24004) (j:=45004) (ej:=1) rfl rfl rfl rfl rfl rfl rfl rfl) ?_
 refine aW.ghost (Zco.renameC (b:=4) (c:=5) (o:=24005) (j:=45005) (ej:=1) rfl rfl rfl rfl rfl rfl rfl rfl) ?_
 refine aW.ghost (Zco.renameC (b:=4) (c:=8) (o:=24008) (j:=45008) (ej:=1) rfl rfl rfl rfl rfl rfl rfl rfl) ?_
 refine aW.ghost (Zco.renameC (b:=4) (c:=9) (o:=24009) (j:=45009) (ej:=1) rfl rfl rfl rfl rfl rfl rfl rfl) ?_
 refine aW.ghost (Zco.renameC (b:=4) (c:=10) (o:=24010) (j:=45010) (ej:=1) rfl rfl rfl rfl rfl rfl rfl rfl) ?_
 refine aW.ghost (Zco.renameC (b:=4) (c:=13) (o:=24013) (j:=45013) (ej:=1) rfl rfl rfl rfl rfl rfl rfl rfl) ?_
 refine aW.ghost (Zco.renameC (b:=4) (c:=14) (o:=24014) (j:=45014) (ej:=1) rfl rfl rfl rfl rfl rfl rfl rfl) ?_
 refine aW.ghost (Zco.renameC (b:=4) (c:=15) (o:=24015) (j:=45015) (ej:=1) rfl rfl rfl rfl rfl rfl rfl rfl) ?_
 refine aW.ghost (Zco.renameC (b:=4) (c:=16) (o:=24016) (j:=45016) (ej:=1) rfl rfl rfl rfl rfl rfl rfl rfl) ?_
 refine aW.ghost (Zco.renameC (b:=4) (c:=17) (o:=24017) (j:=45017) (ej:=1) rfl rfl rfl rfl rfl rfl rfl rfl) ?_
 dsimp only [List.set]
 refine aW.loopF rfl (fun q:Pr×Nat=>[]) [(7,_),(5,_),(4,_),(2,_),(1,_)] (fun q=>[(4,1,.box 40 [.t (.int .i64 q.1.me),.t (.int .i64 q.1.delay),.t (.int .i64 q.1.ahead),.t (.int .i64 q.1.seed),.hnd 45004 q.2,.hnd 45005 q.2,.t (.int .i64 q.1.base.tick),.t (.int .i64 q.1.base.seed),.hnd 45008 q.2,.hnd 45009 q.2,.hnd 45010 q.2,.t (.int .i64 q.1.now.tick),.t (.int .i64 q.1.now.seed),.hnd 45013 q.2,.hnd 45014 q.2,.hnd 45015 q.2,.hnd 45016 q.2,.hnd 45017 q.2,.t (.int .i64 q.1.ft),.t (.int .i64 q.1.fp),.t (.int .i64 q.1.fa),.t (.int .i64 q.1.rolls),.t (.int .i64 q.1.again)]),(45004,q.2,.row false true 46 (q.1.tracks.map trackC)),(45005,q.2,.row true true 9 (Zai q.1.base.level)),(45008,q.2,.row true true 3 (Zak q.1.base.scores)),(45009,q.2,.row true true 114 (q.1.base.bodies.map bodyC)),(45010,q.2,.row true true 9 (Zai q.1.now.level)),(45013,q.2,.row true true 3 (Zak q.1.now.scores)),(45014,q.2,.row true true 114 (q.1.now.bodies.map bodyC)),(45015,q.2,.row false true 27 (q.1.used.map trackC)),(45016,q.2,.row true true 100 (q.1.saves.map saveC)),(45017,q.2,.row true true 3 (Zak q.1.sums))]) [(1,_,_),(2,_,_)] (fun q=>R=Zqm (p.now.tick - q.1.now.tick).toNat p.now.tick q.1∧Zeq q.1∧Zc0 q.1) (fun q=>(p.now.tick - q.1.now.tick).toNat) (q0,1) ⟨hR,rl,rd⟩ (by (exact plei)) ?_
 rintro ⟨q,ep⟩ hI
 obtain ⟨hq,hql,hqd⟩:R=Zqm (p.now.tick - q.now.tick).toNat p.now.tick q∧Zeq q∧Zc0 q:=hI
 refine pln ?_
 have had:=Zre q hql hqd _ rfl
 dsimp only [pcR,pcF] at had
 by_cases hlt:q.now.tick < p.now.tick
 ·cases ha:ZpB q with
  | none =>
   rw [Zrq hlt ha] at hq
   subst hq
   rw [ha] at had
   dsimp only [Option.getD_none,Option.isSome_none,Option.map_none] at hv had ⊢
   subst hv
   repeat' (first|refine pa ?_|(refine pb ?_ ?_<;>intro hg)|(refine z9 ?_;(first|refine pz3 had ?_|refine pz3 hcp ?_))|refine po ?_|fail)
   exact pfg
  | some r =>
   rw [Zrr hlt ha] at hq
   rw [ha] at had
   have hrt:=(Zqr ha).2.1
   dsimp only [Option.getD_some,Option.isSome_some] at had
   repeat' (first|refine pa ?_|(refine pb ?_ ?_<;>intro hg)|(refine z9 ?_;(refine pz3 had ?_))|refine po ?_|fail)
   exact ⟨(r,ep + 1),⟨hq,ZqY hql ha,ZqX hqd ha⟩,by show (p.now.tick - r.now.tick).toNat < (p.now.tick - q.now.tick).toNat;omega,by (exact ple)⟩
 ·rw [Zrp hlt] at hq
  subst hq
  dsimp only [Option.map_some,Option.getD_some,Option.isSome_some] at hv ⊢
  unfold ZpG at hv
  rw [hfe] at hv
  subst hv
  repeat' (first|refine pa ?_|(refine pb ?_ ?_<;>intro hg)|refine po ?_|fail)
  exact pfg
end Go.Proofs.YthfaongbpdnlnaaGreat
