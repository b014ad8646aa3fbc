/- What is proved: contracts on adding inputs to tracks and on taking packets, in the calculus of abstract states.
   Conditions: none. -/
import Derived.Test.YthfaongbpdnlnaaGreatT12uc
import Derived.Test.YthfaongbpdnlnaaGreatT103
import Derived.Test.YthfaongbpdnlnaaGreatT99bi
namespace Go.Proofs.YthfaongbpdnlnaaGreat
set_option maxHeartbeats 4000000
set_option maxRecDepth 20000
set_option linter.unusedSimpArgs false
set_option linter.unusedVariables false
open Go.RowKit Ab
theorem T35d2 {X Y:Prop} (h:Y) (r:Hld Y→X:=by intro h;exact pdr [] 16 (by (apply pct 16 32767 1;(focus (intro hd34;(apply pct 16 9215 5;(focus (intro hd33;(apply pct 16 16383 2;(focus (intro hd32;(apply pct 16 8703 6;(focus (intro hd31;(apply pct 16 1023 6;(focus (intro hd30;(apply pct 16 8679 8;(focus (intro hd29;(apply pct 16 8687 7;(focus (intro hd28;(apply pct 16 8639 7;(focus (intro hd27;(apply pct 16 8447 7;(focus (intro hd26;(apply pct 16 511 7;(focus (intro hd25;(apply pct 16 8615 9;(focus (intro hd24;(apply pct 16 8423 9;(focus (intro hd23;(apply pct 16 8675 9;(focus (intro hd22;(apply pct 16 487 9;(focus (intro hd21;(apply pct 16 8623 8;(focus (intro hd20;(apply pct 16 8431 8;(focus (intro hd19;(apply pct 16 495 8;(focus (intro hd18;(apply pct 16 8383 8;(focus (intro hd17;(apply pct 16 447 8;(focus (intro hd16;(apply pct 16 255 8;(focus (intro hd15;(apply pct 16 8359 10;(focus (intro hd14;(apply pct 16 8611 10;(focus (intro hd13;(apply pct 16 423 10;(focus (intro hd12;(apply pct 16 8419 10;(focus (intro hd11;(apply pct 16 483 10;(focus (intro hd10;(apply pct 16 231 10;(focus (intro hd9;(apply pct 16 8367 9;(focus (intro hd8;(apply pct 16 431 9;(focus (intro hd7;(apply pct 16 239 9;(focus (intro hd6;(apply pct 16 191 9;(focus (intro hd5;(apply pct 16 8355 11;(focus (intro hd4;(apply pct 16 419 11;(focus (intro hd3;(apply pct 16 227 11;(focus (intro hd2;(apply pct 16 167 11;(focus (intro hd1;(refine pt0_ 0 ?_<;>refine ZaC 1 ?_<;>refine ZaC 5 ?_<;>refine ZaC 7 ?_<;>(refine pall [2,6,8,13] (And.intro ?_ (And.intro ?_ (And.intro ?_ (And.intro ?_ trivial))));(focus ((refine pop ?_;refine pk7 ?_)<;>(exact ptm hd1)));(focus ((refine pop ?_;refine pk7 ?_)<;>(exact ptm hd2)));(focus ((refine pop ?_;refine pk7 ?_)<;>(exact ptm hd3)));(focus ((refine pop ?_;refine pk3 ?_)<;>(exact ptm hd4)))))));(case main=>(refine Za7 3 ?_<;>(refine pall [4,6,8,13] (And.intro ?_ (And.intro ?_ (And.intro ?_ (And.intro ?_ trivial))));(focus ((refine pop ?_;refine pk7 ?_)<;>(exact ptm hd5)));(focus ((refine pop ?_;refine pk7 ?_)<;>(exact ptm hd6)));(focus ((refine pop ?_;refine pk7 ?_)<;>(exact ptm hd7)));(focus ((refine pop ?_;refine pk3 ?_)<;>(exact ptm hd8)))))))));(case main=>((refine pq3 2 8 13 ?_ ?_ ?_;(focus ((refine pop ?_;refine pk7 ?_)<;>(exact ptm hd9)));(focus ((refine pop ?_;refine pk7 ?_)<;>(exact ptm hd10)));(focus ((refine pop ?_;refine pk3 ?_)<;>(exact ptm hd11)))))))));(case main=>((refine pq3 2 6 13 ?_ ?_ ?_;(focus ((refine pop ?_;refine pk7 ?_)<;>(exact ptm hd12)));(focus ((refine pop ?_;refine pk7 ?_)<;>(exact ptw hd10)));(focus ((refine pop ?_;refine pk3 ?_)<;>(exact ptm hd13)))))))));(case main=>((refine pq3 2 6 8 ?_ ?_ ?_;(focus ((refine pop ?_;refine pk7 ?_)<;>(exact ptm hd14)));(focus ((refine pop ?_;refine pk7 ?_)<;>(exact ptw hd11)));(focus ((refine pop ?_;refine pk7 ?_)<;>(exact ptw hd13)))))))));(case main=>((refine pq3 6 8 13 ?_ ?_ ?_;(focus ((refine pop ?_;refine pk7 ?_)<;>(exact ptm hd15)));(focus ((refine pop ?_;refine pk7 ?_)<;>(exact ptm hd16)));(focus ((refine pop ?_;refine pk3 ?_)<;>(exact ptm hd17)))))))));(case main=>((refine pq3 4 8 13 ?_ ?_ ?_;(focus ((refine pop ?_;refine pk7 ?_)<;>(exact ptw hd15)));(focus ((refine pop ?_;refine pk7 ?_)<;>(exact ptm hd18)));(focus ((refine pop ?_;refine pk3 ?_)<;>(exact ptm hd19)))))))));(case main=>((refine pq3 4 6 13 ?_ ?_ ?_;(focus ((refine pop ?_;refine pk7 ?_)<;>(exact ptw hd16)));(focus ((refine pop ?_;refine pk7 ?_)<;>(exact ptw hd18)));(focus ((refine pop ?_;refine pk3 ?_)<;>(exact ptm hd20)))))))));(case main=>((refine pq3 4 6 8 ?_ ?_ ?_;(focus ((refine pop ?_;refine pk7 ?_)<;>(exact ptw hd17)));(focus ((refine pop ?_;refine pk7 ?_)<;>(exact ptw hd19)));(focus ((refine pop ?_;refine pk7 ?_)<;>(exact ptw hd20)))))))));(case main=>(refine Za7 3 ?_<;>(refine pq3 4 8 13 ?_ ?_ ?_;(focus ((refine pop ?_;refine pk7 ?_)<;>(exact ptw hd15)));(focus ((refine pop ?_;refine pk7 ?_)<;>(exact ptw hd18)));(focus ((refine pop ?_;refine pk3 ?_)<;>(exact ptw hd19)))))))));(case main=>((refine pq2 2 13 ?_ ?_;(focus ((refine pop ?_;refine pk7 ?_)<;>(exact ptm hd21)));(focus ((refine pop ?_;refine pk3 ?_)<;>(exact ptm hd22)))))))));(case main=>((refine pq2 2 8 ?_ ?_;(focus ((refine pop ?_;refine pk7 ?_)<;>(exact ptm hd23)));(focus ((refine pop ?_;refine pk7 ?_)<;>(exact ptw hd22)))))))));(case main=>(refine Za7 3 ?_<;>(refine pq3 4 6 13 ?_ ?_ ?_;(focus ((refine pop ?_;refine pk7 ?_)<;>(exact ptw hd16)));(focus ((refine pop ?_;refine pk7 ?_)<;>(exact ptw hd18)));(focus ((refine pop ?_;refine pk3 ?_)<;>(exact ptw hd20)))))))));(case main=>((refine pq2 2 6 ?_ ?_;(focus ((refine pop ?_;refine pk7 ?_)<;>(exact ptm hd24)));(focus ((refine pop ?_;refine pk7 ?_)<;>(exact ptw hd22)))))))));(case main=>(refine Za7 3 ?_<;>(refine pq3 4 6 8 ?_ ?_ ?_;(focus ((refine pop ?_;refine pk7 ?_)<;>(exact ptw hd17)));(focus ((refine pop ?_;refine pk7 ?_)<;>(exact ptw hd19)));(focus ((refine pop ?_;refine pk7 ?_)<;>(exact ptw hd20)))))))));(case main=>((refine pq2 8 13 ?_ ?_;(focus ((refine pop ?_;refine pk7 ?_)<;>(exact ptm hd25)));(focus ((refine pop ?_;refine pk3 ?_)<;>(exact ptm hd26)))))))));(case main=>((refine pq2 6 13 ?_ ?_;(focus ((refine pop ?_;refine pk7 ?_)<;>(exact ptw hd25)));(focus ((refine pop ?_;refine pk3 ?_)<;>(exact ptm hd27)))))))));(case main=>((refine pq2 6 8 ?_ ?_;(focus ((refine pop ?_;refine pk7 ?_)<;>(exact ptw hd26)));(focus ((refine pop ?_;refine pk7 ?_)<;>(exact ptw hd27)))))))));(case main=>((refine pq2 4 13 ?_ ?_;(focus ((refine pop ?_;refine pk7 ?_)<;>(exact ptw hd25)));(focus ((refine pop ?_;refine pk3 ?_)<;>(exact ptm hd28)))))))));(case main=>((refine pq2 4 8 ?_ ?_;(focus ((refine pop ?_;refine pk7 ?_)<;>(exact ptw hd26)));(focus ((refine pop ?_;refine pk7 ?_)<;>(exact ptw hd28)))))))));(case main=>((refine pq2 4 6 ?_ ?_;(focus ((refine pop ?_;refine pk7 ?_)<;>(exact ptw hd27)));(focus ((refine pop ?_;refine pk7 ?_)<;>(exact ptw hd28)))))))));(case main=>(refine Za7 3 ?_<;>(refine pq2 4 13 ?_ ?_;(focus ((refine pop ?_;refine pk7 ?_)<;>(exact ptw hd25)));(focus ((refine pop ?_;refine pk3 ?_)<;>(exact ptw hd28)))))))));(case main=>((refine pq1 2 ?_;(focus ((refine pop ?_;refine pk7 ?_)<;>(exact ptm hd29)))))))));(case main=>(refine Za7 3 ?_<;>(refine pq2 4 8 ?_ ?_;(focus ((refine pop ?_;refine pk7 ?_)<;>(exact ptw hd26)));(focus ((refine pop ?_;refine pk7 ?_)<;>(exact ptw hd28)))))))));(case main=>(refine Za7 3 ?_<;>(refine pq2 4 6 ?_ ?_;(focus ((refine pop ?_;refine pk7 ?_)<;>(exact ptw hd27)));(focus ((refine pop ?_;refine pk7 ?_)<;>(exact ptw hd28)))))))));(case main=>((refine pq2 9 13 ?_ ?_;(focus ((refine pop ?_;(refine Zab (n:=20) ?_;(first|refine pz3 hai ?_)))<;>(exact ptm hd30)));(focus ((refine pop ?_;refine pk3 ?_)<;>(exact ptm hd31)))))))));(case main=>((refine pq1 8 ?_;(focus ((refine pop ?_;refine pk7 ?_)<;>(exact ptw hd31)))))))));(case main=>((refine pq1 6 ?_;(focus ((refine pop ?_;refine pk7 ?_)<;>(exact ptw hd31)))))))));(case main=>((refine pq1 4 ?_;(focus ((refine pop ?_;refine pk7 ?_)<;>(exact ptw hd31)))))))));(case main=>(refine Za7 3 ?_<;>(refine pq1 4 ?_;(focus ((refine pop ?_;refine pk7 ?_)<;>(exact ptw hd31)))))))));(case main=>(refine pt0_ 10 ?_<;>refine Zes 11 ?_<;>refine Zes 12 ?_<;>(refine pq1 13 ?_;(focus ((refine pop ?_;refine pk3 ?_)<;>(exact ptm hd32)))))))));(case main=>((refine pq1 9 ?_;(focus ((refine pop ?_;(refine Zab (n:=20) ?_;(first|refine pz3 hai ?_)))<;>(exact ptm hd33)))))))));(case main=>((refine pq1 14 ?_;(focus ((refine pop ?_;refine pk8 ?_)<;>(exact ptm hd34)))))))));(case main=>(refine pt0_ 10 ?_<;>refine Zes 11 ?_<;>refine Zes 12 ?_<;>(refine pq1 14 ?_;(focus ((refine pop ?_;refine pk8 ?_)<;>(exact ptw hd34)))))))));(case main=>(refine pt1_ 15 ?_<;>(refine ZaI ?_;exact ZaJ))))) h.out):X:=r ⟨h⟩
theorem Zvb (t:List Int) (first:Int) (ins:List Int) (ht:t.length≤1048576):AC Tryz.prog 158 [.agg [.t (ints 3 t)],.t (.int .i64 first),.t (ints 3 ins)]
  (.tup [.agg [.fr true 3 (Zak (Zka t first ins).1)],.t (.bool (Zka t first ins).2)]):=by
 have hct:=Zi3 t ht
 have hok:=Zhj t
 have hin:=ZfP ins
 by_cases hpre:ZaH t=true∧0≤first∧first≤t.length∧(ins.length:Int)≤400 - first∧Zbl ins=true
 ·obtain ⟨h1,h2,h3,h4,h5⟩:=hpre
  obtain ⟨f,rfl⟩:=Int.eq_ofNat_of_zero_le h2
  have hf:f≤t.length:=by omega
  have h400:=Zei h1
  have hpre2:Ztj t f ins=Zsq t f ins:=by
   unfold Ztj
   rw [h1,h5,decide_eq_true (show (0:Int)≤(f:Int)∧(f:Int)≤t.length from ⟨h2,h3⟩),decide_eq_true h4]
   simp
  rw [h1] at hok
  rw [h5] at hin
  refine AC.go Tryz.func158 Tryz.ntmps158 fun B W hr=>?_
  repeat' (first|refine pa ?_|(refine pb ?_ ?_<;>intro hg)|(refine Zab (n:=20) ?_;(first|refine Zaa hok ?_|refine Zaa hin ?_|refine pz3 hct ?_))|refine po ?_|fail)
  refine aW.loopF rfl (fun q:Nat×Nat×List Int=>[(42,.t (.int .i64 q.1))]) [(41,_),(40,_),(1,_),(3,_),(6,_),(8,_)] (fun q=>[(8,1,.box 46 [.hnd 12000 q.2.1]),(12000,q.2.1,.row true true 3 (Zak q.2.2))]) [(3,_,_),(6,_,_)] (fun q=>q.1≤ins.length∧q.2.2=Zsl t f (ins.take q.1)∧Zsq t f (ins.take q.1)=true) (fun q=>ins.length - q.1) (0,1,t) ⟨Nat.zero_le _,(Zuk t f).symm,ZtV t f⟩ (by (exact plei)) ?_
  rintro ⟨k,ep,zs⟩ hI
  obtain ⟨hk,hz,ha⟩:k≤ins.length∧zs=Zsl t f (ins.take k)∧Zsq t f (ins.take k)=true:=hI
  subst hz
  have hel2:(Zsl t f (ins.take k)).length≤400:=by rw [ZsF hf,List.length_take];omega
  have hel:(Zak (Zsl t f (ins.take k))).length=(Zsl t f (ins.take k)).length:=Zal _
  refine pln ?_
  by_cases hkn:k < ins.length
  ·by_cases hft:f + k < t.length
   ·by_cases hx:t.getD (f + k) default=ins.getD k default
    ·repeat' (first|refine pa ?_|(refine pb ?_ ?_<;>intro hg)|refine po ?_|fail)
     have hd:Zsl t f (ins.take (k + 1))=Zsl t f (ins.take k):=by rw [Ztl hkn hf,if_pos hft]
     exact ⟨(k + 1,ep,Zsl t f (ins.take k)),⟨hkn,hd.symm,ZsQ hkn ha fun h=>by rwa [← Zb6 hft,← Zb6 hkn]⟩,by show ins.length - (k + 1) < ins.length - k;omega,by (exact ple)⟩
    ·have hno:Zka t f ins=(t,false):=by
      rw [Zka,if_neg]
      rw [hpre2,ZtW hkn hft (by rwa [← Zb6 hft,← Zb6 hkn])]
      decide
     rw [hno]
     repeat' (first|refine pa ?_|(refine pb ?_ ?_<;>intro hg)|(refine Zab (n:=20) ?_;(first|refine pz3 hct ?_))|refine po ?_|fail)
     exact pfg
   ·repeat' (first|refine pa ?_|(refine pb ?_ ?_<;>intro hg)|refine po ?_|fail)
    exact ⟨(k + 1,ep + 1,Zsl t f (ins.take (k + 1))),⟨hkn,rfl,ZsQ hkn ha fun h=>absurd h hft⟩,by show ins.length - (k + 1) < ins.length - k;omega,by rw [Zuj hkn hf hft];(exact ple)⟩
  ·have hk':k=ins.length:=by omega
   subst hk'
   rw [List.take_length] at ha
   have hyes:Zka t f ins=(Zsl t f ins,true):=by
    rw [Zka,if_pos (hpre2.trans ha)]
    rfl
   rw [hyes]
   repeat' (first|refine pa ?_|(refine pb ?_ ?_<;>intro hg)|refine po ?_|fail)
   rw [List.take_length]
   exact pfg
 ·have hno:Zka t first ins=(t,false):=by
   rw [Zka,if_neg]
   intro hc
   unfold Ztj at hc
   simp only [Bool.and_eq_true,decide_eq_true_eq] at hc
   exact hpre ⟨hc.1.1.1.1,hc.1.1.1.2.1,hc.1.1.1.2.2,hc.1.1.2,hc.1.2⟩
  rw [hno]
  refine AC.go Tryz.func158 Tryz.ntmps158 fun B W hr=>?_
  obtain ⟨us,hus⟩:=hr
  have hl1:=ZcJ (ZaR hus (i:=1) rfl)
  have hl2:=(Zga (ZaR hus (i:=2) rfl)).1
  clear hus
  repeat' (first|refine pa ?_|(refine pb ?_ ?_<;>intro hg)|(refine Zab (n:=20) ?_;(first|refine Zaa hok ?_|refine Zaa hin ?_|refine pz3 hct ?_))|refine po ?_|fail)
  all_goals first
   | (refine pfin ?_;(exact pgiv);done)
   | (exfalso;simp only [Bool.not_eq_true',Bool.not_eq_false',Bool.not_eq_true,Bool.not_eq_false] at *;exact hpre ⟨by assumption,by omega,by omega,by omega,by assumption⟩)
theorem Zu9 (ts:TS) (fr tk fs stk sm tm ec:Int) (ins acks:List Int) (hn:ts.length≤1048576) (hx:∀ k,k < ts.length→(ts.getD k default).length≤1048576):AC Tryz.prog 73 [.t (.lst false 46 (ts.map trackC)),.agg [.t (.int .i64 fr),.t (.int .i64 tk),.t (.int .i64 fs),.t (ints 3 ins),.t (ints 3 acks),.t (.int .i64 stk),.t (.int .i64 sm),.t (.int .i64 tm),.t (.int .i64 ec)]]
  (.tup [.fr false 46 ((ZtB ts fr tk fs ins acks stk sm tm ec).1.map trackC),.t (.bool (ZtB ts fr tk fs ins acks stk sm tm ec).2)]):=by
 have hct:=Zij ts hn hx
 have hto:=Zds ts
 have hpo:=ZtC fr tk fs stk sm tm ec ins acks
 by_cases hpre:Zan ts=true∧ZhP fr tk fs ins acks stk sm tm ec=true∧acks.length=ts.length
 ·have hT:ZtB ts fr tk fs ins acks stk sm tm ec=if (Zka (ts.getD fr.toNat default) fs ins).2=true then (ts.set fr.toNat (Zka (ts.getD fr.toNat default) fs ins).1,true) else (ts,false):=if_pos hpre
  obtain ⟨h1,h2,h3⟩:=hpre
  obtain ⟨q1,q2,q3,q4,q5,q6,q7,q8⟩:=Zsy h2
  rw [h1] at hto
  rw [h2] at hpo
  obtain ⟨f,rfl⟩:=Int.eq_ofNat_of_zero_le q3
  have hf:f < ts.length:=by omega
  have hai:=Zvb (ts.getD f default) fs ins (hx f hf)
  rw [Int.toNat_natCast] at hT
  by_cases hb:(Zka (ts.getD f default) fs ins).2=true
  ·rw [if_pos hb] at hT
   rw [hb] at hai
   rw [hT]
   generalize (Zka (ts.getD f default) fs ins).1=nw at hai hT
   have hms:(ts.set f nw).map trackC=(ts.map trackC).set f [.lst true 3 (Zak nw)]:=by rw [List.map_set];rfl
   dsimp only
   rw [hms]
   refine AC.go Tryz.func73 Tryz.ntmps73 fun B W hr=>?_
   repeat' (first|refine pa ?_|(refine pb ?_ ?_<;>intro hg)|refine Zvh ?_|(refine Zab (n:=20) ?_;(first|refine Zaa hto ?_|refine Zaa hpo ?_|refine pz3 hct ?_|refine pz3 hai ?_))|refine po ?_|(refine T35d2 ?_)|fail)
   exact pfg
  ·rw [if_neg hb] at hT
   rw [Bool.not_eq_true] at hb
   rw [hb] at hai
   rw [hT]
   refine AC.go Tryz.func73 Tryz.ntmps73 fun B W hr=>?_
   repeat' (first|refine pa ?_|(refine pb ?_ ?_<;>intro hg)|refine Zvh ?_|(refine Zab (n:=20) ?_;(first|refine Zaa hto ?_|refine Zaa hpo ?_|refine pz3 hct ?_|refine pz3 hai ?_))|refine po ?_|(refine T35d2 ?_)|fail)
   exact pfg
 ·have hT:ZtB ts fr tk fs ins acks stk sm tm ec=(ts,false):=if_neg hpre
  rw [hT]
  refine AC.go Tryz.func73 Tryz.ntmps73 fun B W hr=>?_
  repeat' (first|refine pa ?_|(refine pb ?_ ?_<;>intro hg)|(refine Zab (n:=20) ?_;(first|refine Zaa hto ?_|refine Zaa hpo ?_|refine pz3 hct ?_))|refine po ?_|fail)
  all_goals first
   | (refine pfin ?_;(exact pgiv);done)
   | (exfalso;simp only [Bool.not_eq_true',Bool.not_eq_false',Bool.not_eq_true,Bool.not_eq_false,decide_eq_true_eq] at *;exact hpre ⟨by assumption,by assumption,by omega⟩)
end Go.Proofs.YthfaongbpdnlnaaGreat
