/- What is proved: contracts on adding inputs and taking packets, the reference's.
   Conditions: lists that can be walked. -/
import Derived.Test.YthfaongbpdnlnaaGreatT103
import Derived.Test.YthfaongbpdnlnaaGreatT93d
namespace Go.Proofs.YthfaongbpdnlnaaGreat
set_option maxHeartbeats 4000000
set_option maxRecDepth 20000
set_option linter.unusedSimpArgs false
set_option linter.unusedVariables false
open Go.RowKit Ab
theorem ZtE (fr tk fs stk sm tm ec:Int) (ins acks:List Int):AC Tryz.prog 202 [.agg [.t (.int .i64 fr),.t (.int .i64 tk),.t (.int .i64 fs),.t (ints 3 ins),.t (ints 3 acks),.t (.int .i64 stk),.t (.int .i64 sm),.t (.int .i64 tm),.t (.int .i64 ec)]] (.t (.bool (ZhP fr tk fs ins acks stk sm tm ec))):=by
  have hi:=Zjl ins
  refine AC.go Tryz.func202 Tryz.ntmps202 fun B W hr=>?_
  obtain ⟨us,hus⟩:=hr
  have hl:=(Zga (ZjG hus (i:=0) (k:=4) rfl rfl)).1
  have hl2:=(Zga (ZjG hus (i:=0) (k:=3) rfl rfl)).1
  clear hus
  repeat' (first|refine pa ?_|(refine pb ?_ ?_<;>intro hg)|(refine Zab (n:=20) ?_;(first|refine Zaa hi ?_|refine Zaa (Zah _ _ _) ?_))|refine po ?_|fail)
  refine aW.loopF rfl (fun q:Nat=>[(3,.t (.int .i64 q))]) [(1,_)] (fun q=>[]) [(1,_,_)] (fun q=>q≤acks.length∧ZsB (acks.take q)=true) (fun q=>acks.length - q) 0 ⟨Nat.zero_le _,rfl⟩ (by (exact plei)) ?_
  rintro k ⟨hk,hok⟩
  refine pln ?_
  repeat' (first|refine pa ?_|(refine pb ?_ ?_<;>intro hg)|(refine Zab (n:=20) ?_;(first|refine Zaa hi ?_|refine Zaa (Zah _ _ _) ?_))|refine po ?_|fail)
  all_goals first
    | (exact ⟨k + 1,⟨by omega,Zjm (by omega) hok (by simpa using hg)⟩,by omega,by (exact ple)⟩)
    | (have ha:ZsB acks=false:=ZlS (k:=k) (by omega) (by simpa using hg)
       (refine pfin ?_;refine .inl (congrArg T.bool ?_);(try simp only [Bool.not_eq_true',Bool.not_eq_false'] at *);(first|(simp only [ZhP, *,Bool.and_true,Bool.and_false,Bool.false_and,Bool.true_and,Bool.and_self,Bool.not_true,Bool.not_false];done)|(simp [ZhP, *];done))))
    | (have ha:ZsB acks=true:=ZlT (by omega) hok
       first
         | (have h40:decide (ins.length≤40)=true:=decide_eq_true (by omega)
            (refine pfin ?_;refine .inl (congrArg T.bool ?_);(try simp only [Bool.not_eq_true',Bool.not_eq_false'] at *);(first|(simp only [ZhP, *,Bool.and_true,Bool.and_false,Bool.false_and,Bool.true_and,Bool.and_self,Bool.not_true,Bool.not_false];done)|(simp [ZhP, *];done))))
         | (have h40:decide (ins.length≤40)=false:=decide_eq_false (by omega)
            (refine pfin ?_;refine .inl (congrArg T.bool ?_);(try simp only [Bool.not_eq_true',Bool.not_eq_false'] at *);(first|(simp only [ZhP, *,Bool.and_true,Bool.and_false,Bool.false_and,Bool.true_and,Bool.and_self,Bool.not_true,Bool.not_false];done)|(simp [ZhP, *];done))))
         | (refine pfin ?_;refine .inl (congrArg T.bool ?_);(try simp only [Bool.not_eq_true',Bool.not_eq_false'] at *);(first|(simp only [ZhP, *,Bool.and_true,Bool.and_false,Bool.false_and,Bool.true_and,Bool.and_self,Bool.not_true,Bool.not_false];done)|(simp [ZhP, *];done))))
theorem Zs0 (xs ys:List Int):Zbl (xs++ys)=(Zbl xs && Zbl ys):=by simp [Zbl]
theorem ZsU {xs:List Int} (h:∀ k (hk:k < xs.length),0≤xs[k]∧xs[k]≤15):Zbl xs=true:=by
 unfold Zbl
 rw [List.all_eq_true]
 intro x hx
 obtain ⟨i,hi,rfl⟩:=List.getElem_of_mem hx
 exact Zae.2 (h i hi)
theorem ZuB {t ins:List Int} {f:Nat} (ht:ZaH t=true) (hf:f≤t.length) (ha:Zsq t f ins=true):ZaH (Zsl t f ins)=Ztj t f ins:=by
 have ht':=ht
 unfold ZaH at ht
 rw [Bool.and_eq_true,decide_eq_true_eq] at ht
 obtain ⟨hl,hi⟩:=ht
 unfold Ztj
 rw [ht']
 simp only [Bool.true_and,Int.toNat_natCast,ha,Bool.and_true]
 rw [decide_eq_true (show (0:Int)≤f∧(f:Int)≤t.length by omega),Bool.true_and]
 unfold ZaH
 rw [ZsF hf]
 by_cases h1:(ins.length:Int)≤400 - f
 ·rw [decide_eq_true h1,decide_eq_true (show max t.length (f + ins.length)≤400 by omega),Bool.true_and,Bool.true_and]
  unfold Zsl
  rw [Zs0,hi,Bool.true_and,Bool.eq_iff_iff]
  constructor
  ·intro h
   refine ZsU fun k hk=>?_
   by_cases e:f + k < t.length
   ·unfold Zsq at ha
    rw [decide_eq_true_eq] at ha
    have:=ha k hk e
    simp [List.getD_eq_getElem?_getD,e,hk] at this
    rw [← this]
    exact Zkw hi e
   ·have hk':k - (t.length - f) < (ins.drop (t.length - f)).length:=by simp;omega
    have:=Zkw h hk'
    rw [List.getElem_drop] at this
    simpa [show t.length - f + (k - (t.length - f))=k by omega] using this
  ·intro h
   refine ZsU fun k hk=>?_
   rw [List.getElem_drop]
   exact Zkw h _
 ·rw [decide_eq_false h1,decide_eq_false (by omega)]
  rfl
theorem ZsO {X Y:Prop} (h:Y) (r:Hld Y→X:=by intro h;exact pdr [] 10 (by (apply pct 10 1023 0;(focus (intro hd7;(apply pct 10 255 2;(focus (intro hd6;(apply pct 10 127 3;(focus (intro hd5;(apply pct 10 125 4;(focus (intro hd4;(apply pct 10 63 4;(focus (intro hd3;(apply pct 10 61 5;(focus (intro hd2;(apply pct 10 31 5;(focus (intro hd1;(refine ZaC 0 ?_<;>refine pt0_ 2 ?_<;>refine pt0_ 3 ?_<;>refine Za7 4 ?_<;>(refine pq2 1 5 ?_ ?_;(focus ((refine pop ?_;refine pk7 ?_)<;>(exact ptm hd1)));(focus ((refine pop ?_;refine pk7 ?_)<;>(exact ptm hd2)))))));(case main=>((refine pq1 5 ?_;(focus ((refine pop ?_;refine pk7 ?_)<;>(exact ptm hd3)))))))));(case main=>((refine pq2 1 6 ?_ ?_;(focus ((refine pop ?_;refine pk7 ?_)<;>(exact ptw hd3)));(focus ((refine pop ?_;refine pk6 ?_)<;>(exact ptm hd4)))))))));(case main=>((refine pq1 6 ?_;(focus ((refine pop ?_;refine pk6 ?_)<;>(exact ptm hd5)))))))));(case main=>((refine pq1 1 ?_;(focus ((refine pop ?_;refine pk7 ?_)<;>(exact ptw hd5)))))))));(case main=>((refine pq1 7 ?_;(focus ((refine pop ?_;refine pk20 ?_)<;>(exact ptm hd6)))))))));(case main=>(refine ZaC 8 ?_<;>(refine pq1 9 ?_;(focus ((refine pop ?_;refine pk8 ?_)<;>(exact ptm hd7)))))))));(case main=>((refine ZaI ?_;exact ZaJ))))) h.out):X:=r ⟨h⟩
theorem T104d3 {X Y:Prop} (h:Y) (r:Hld Y→X:=by intro h;exact pdr [] 16 (by (apply pct 16 32767 1;(focus (intro hd34;(apply pct 16 9215 5;(focus (intro hd33;(apply pct 16 16383 2;(focus (intro hd32;(apply pct 16 8703 6;(focus (intro hd31;(apply pct 16 1023 6;(focus (intro hd30;(apply pct 16 8679 8;(focus (intro hd29;(apply pct 16 8687 7;(focus (intro hd28;(apply pct 16 8639 7;(focus (intro hd27;(apply pct 16 8447 7;(focus (intro hd26;(apply pct 16 511 7;(focus (intro hd25;(apply pct 16 8615 9;(focus (intro hd24;(apply pct 16 8423 9;(focus (intro hd23;(apply pct 16 8675 9;(focus (intro hd22;(apply pct 16 487 9;(focus (intro hd21;(apply pct 16 8623 8;(focus (intro hd20;(apply pct 16 8431 8;(focus (intro hd19;(apply pct 16 495 8;(focus (intro hd18;(apply pct 16 8383 8;(focus (intro hd17;(apply pct 16 447 8;(focus (intro hd16;(apply pct 16 255 8;(focus (intro hd15;(apply pct 16 8359 10;(focus (intro hd14;(apply pct 16 8611 10;(focus (intro hd13;(apply pct 16 423 10;(focus (intro hd12;(apply pct 16 8419 10;(focus (intro hd11;(apply pct 16 483 10;(focus (intro hd10;(apply pct 16 231 10;(focus (intro hd9;(apply pct 16 8367 9;(focus (intro hd8;(apply pct 16 431 9;(focus (intro hd7;(apply pct 16 239 9;(focus (intro hd6;(apply pct 16 191 9;(focus (intro hd5;(apply pct 16 8355 11;(focus (intro hd4;(apply pct 16 419 11;(focus (intro hd3;(apply pct 16 227 11;(focus (intro hd2;(apply pct 16 167 11;(focus (intro hd1;(refine pt0_ 0 ?_<;>refine ZaC 1 ?_<;>refine ZaC 5 ?_<;>refine ZaC 7 ?_<;>(refine pall [2,6,8,13] (And.intro ?_ (And.intro ?_ (And.intro ?_ (And.intro ?_ trivial))));(focus ((refine pop ?_;refine pk7 ?_)<;>(exact ptm hd1)));(focus ((refine pop ?_;refine pk7 ?_)<;>(exact ptm hd2)));(focus ((refine pop ?_;refine pk7 ?_)<;>(exact ptm hd3)));(focus ((refine pop ?_;refine pk3 ?_)<;>(exact ptm hd4)))))));(case main=>(refine Za7 3 ?_<;>(refine pall [4,6,8,13] (And.intro ?_ (And.intro ?_ (And.intro ?_ (And.intro ?_ trivial))));(focus ((refine pop ?_;refine pk7 ?_)<;>(exact ptm hd5)));(focus ((refine pop ?_;refine pk7 ?_)<;>(exact ptm hd6)));(focus ((refine pop ?_;refine pk7 ?_)<;>(exact ptm hd7)));(focus ((refine pop ?_;refine pk3 ?_)<;>(exact ptm hd8)))))))));(case main=>((refine pq3 2 8 13 ?_ ?_ ?_;(focus ((refine pop ?_;refine pk7 ?_)<;>(exact ptm hd9)));(focus ((refine pop ?_;refine pk7 ?_)<;>(exact ptm hd10)));(focus ((refine pop ?_;refine pk3 ?_)<;>(exact ptm hd11)))))))));(case main=>((refine pq3 2 6 13 ?_ ?_ ?_;(focus ((refine pop ?_;refine pk7 ?_)<;>(exact ptm hd12)));(focus ((refine pop ?_;refine pk7 ?_)<;>(exact ptw hd10)));(focus ((refine pop ?_;refine pk3 ?_)<;>(exact ptm hd13)))))))));(case main=>((refine pq3 2 6 8 ?_ ?_ ?_;(focus ((refine pop ?_;refine pk7 ?_)<;>(exact ptm hd14)));(focus ((refine pop ?_;refine pk7 ?_)<;>(exact ptw hd11)));(focus ((refine pop ?_;refine pk7 ?_)<;>(exact ptw hd13)))))))));(case main=>((refine pq3 6 8 13 ?_ ?_ ?_;(focus ((refine pop ?_;refine pk7 ?_)<;>(exact ptm hd15)));(focus ((refine pop ?_;refine pk7 ?_)<;>(exact ptm hd16)));(focus ((refine pop ?_;refine pk3 ?_)<;>(exact ptm hd17)))))))));(case main=>((refine pq3 4 8 13 ?_ ?_ ?_;(focus ((refine pop ?_;refine pk7 ?_)<;>(exact ptw hd15)));(focus ((refine pop ?_;refine pk7 ?_)<;>(exact ptm hd18)));(focus ((refine pop ?_;refine pk3 ?_)<;>(exact ptm hd19)))))))));(case main=>((refine pq3 4 6 13 ?_ ?_ ?_;(focus ((refine pop ?_;refine pk7 ?_)<;>(exact ptw hd16)));(focus ((refine pop ?_;refine pk7 ?_)<;>(exact ptw hd18)));(focus ((refine pop ?_;refine pk3 ?_)<;>(exact ptm hd20)))))))));(case main=>((refine pq3 4 6 8 ?_ ?_ ?_;(focus ((refine pop ?_;refine pk7 ?_)<;>(exact ptw hd17)));(focus ((refine pop ?_;refine pk7 ?_)<;>(exact ptw hd19)));(focus ((refine pop ?_;refine pk7 ?_)<;>(exact ptw hd20)))))))));(case main=>(refine Za7 3 ?_<;>(refine pq3 4 8 13 ?_ ?_ ?_;(focus ((refine pop ?_;refine pk7 ?_)<;>(exact ptw hd15)));(focus ((refine pop ?_;refine pk7 ?_)<;>(exact ptw hd18)));(focus ((refine pop ?_;refine pk3 ?_)<;>(exact ptw hd19)))))))));(case main=>((refine pq2 2 13 ?_ ?_;(focus ((refine pop ?_;refine pk7 ?_)<;>(exact ptm hd21)));(focus ((refine pop ?_;refine pk3 ?_)<;>(exact ptm hd22)))))))));(case main=>((refine pq2 2 8 ?_ ?_;(focus ((refine pop ?_;refine pk7 ?_)<;>(exact ptm hd23)));(focus ((refine pop ?_;refine pk7 ?_)<;>(exact ptw hd22)))))))));(case main=>(refine Za7 3 ?_<;>(refine pq3 4 6 13 ?_ ?_ ?_;(focus ((refine pop ?_;refine pk7 ?_)<;>(exact ptw hd16)));(focus ((refine pop ?_;refine pk7 ?_)<;>(exact ptw hd18)));(focus ((refine pop ?_;refine pk3 ?_)<;>(exact ptw hd20)))))))));(case main=>((refine pq2 2 6 ?_ ?_;(focus ((refine pop ?_;refine pk7 ?_)<;>(exact ptm hd24)));(focus ((refine pop ?_;refine pk7 ?_)<;>(exact ptw hd22)))))))));(case main=>(refine Za7 3 ?_<;>(refine pq3 4 6 8 ?_ ?_ ?_;(focus ((refine pop ?_;refine pk7 ?_)<;>(exact ptw hd17)));(focus ((refine pop ?_;refine pk7 ?_)<;>(exact ptw hd19)));(focus ((refine pop ?_;refine pk7 ?_)<;>(exact ptw hd20)))))))));(case main=>((refine pq2 8 13 ?_ ?_;(focus ((refine pop ?_;refine pk7 ?_)<;>(exact ptm hd25)));(focus ((refine pop ?_;refine pk3 ?_)<;>(exact ptm hd26)))))))));(case main=>((refine pq2 6 13 ?_ ?_;(focus ((refine pop ?_;refine pk7 ?_)<;>(exact ptw hd25)));(focus ((refine pop ?_;refine pk3 ?_)<;>(exact ptm hd27)))))))));(case main=>((refine pq2 6 8 ?_ ?_;(focus ((refine pop ?_;refine pk7 ?_)<;>(exact ptw hd26)));(focus ((refine pop ?_;refine pk7 ?_)<;>(exact ptw hd27)))))))));(case main=>((refine pq2 4 13 ?_ ?_;(focus ((refine pop ?_;refine pk7 ?_)<;>(exact ptw hd25)));(focus ((refine pop ?_;refine pk3 ?_)<;>(exact ptm hd28)))))))));(case main=>((refine pq2 4 8 ?_ ?_;(focus ((refine pop ?_;refine pk7 ?_)<;>(exact ptw hd26)));(focus ((refine pop ?_;refine pk7 ?_)<;>(exact ptw hd28)))))))));(case main=>((refine pq2 4 6 ?_ ?_;(focus ((refine pop ?_;refine pk7 ?_)<;>(exact ptw hd27)));(focus ((refine pop ?_;refine pk7 ?_)<;>(exact ptw hd28)))))))));(case main=>(refine Za7 3 ?_<;>(refine pq2 4 13 ?_ ?_;(focus ((refine pop ?_;refine pk7 ?_)<;>(exact ptw hd25)));(focus ((refine pop ?_;refine pk3 ?_)<;>(exact ptw hd28)))))))));(case main=>((refine pq1 2 ?_;(focus ((refine pop ?_;refine pk7 ?_)<;>(exact ptm hd29)))))))));(case main=>(refine Za7 3 ?_<;>(refine pq2 4 8 ?_ ?_;(focus ((refine pop ?_;refine pk7 ?_)<;>(exact ptw hd26)));(focus ((refine pop ?_;refine pk7 ?_)<;>(exact ptw hd28)))))))));(case main=>(refine Za7 3 ?_<;>(refine pq2 4 6 ?_ ?_;(focus ((refine pop ?_;refine pk7 ?_)<;>(exact ptw hd27)));(focus ((refine pop ?_;refine pk7 ?_)<;>(exact ptw hd28)))))))));(case main=>((refine pq2 9 13 ?_ ?_;(focus ((refine pop ?_;(refine Zab (n:=20) ?_;(first|refine pz3 hai ?_)))<;>(exact ptm hd30)));(focus ((refine pop ?_;refine pk3 ?_)<;>(exact ptm hd31)))))))));(case main=>((refine pq1 8 ?_;(focus ((refine pop ?_;refine pk7 ?_)<;>(exact ptw hd31)))))))));(case main=>((refine pq1 6 ?_;(focus ((refine pop ?_;refine pk7 ?_)<;>(exact ptw hd31)))))))));(case main=>((refine pq1 4 ?_;(focus ((refine pop ?_;refine pk7 ?_)<;>(exact ptw hd31)))))))));(case main=>(refine Za7 3 ?_<;>(refine pq1 4 ?_;(focus ((refine pop ?_;refine pk7 ?_)<;>(exact ptw hd31)))))))));(case main=>(refine pt0_ 10 ?_<;>refine Zes 11 ?_<;>refine Zes 12 ?_<;>(refine pq1 13 ?_;(focus ((refine pop ?_;refine pk3 ?_)<;>(exact ptm hd32)))))))));(case main=>((refine pq1 9 ?_;(focus ((refine pop ?_;(refine Zab (n:=20) ?_;(first|refine pz3 hai ?_)))<;>(exact ptm hd33)))))))));(case main=>((refine pq1 14 ?_;(focus ((refine pop ?_;refine pk8 ?_)<;>(exact ptm hd34)))))))));(case main=>(refine pt0_ 10 ?_<;>refine Zes 11 ?_<;>refine Zes 12 ?_<;>(refine pq1 14 ?_;(focus ((refine pop ?_;refine pk8 ?_)<;>(exact ptw hd34)))))))));(case main=>(refine pt1_ 15 ?_<;>(refine ZaI ?_;exact ZaJ))))) h.out):X:=r ⟨h⟩
theorem ZsP {X Y:Prop} (h:Y) (r:Hld Y→X:=by intro h;(apply pdq 12;(focus exact pdp);(focus ((refine ZaC 0 ?_<;>refine pt7_ 1 ?_<;>refine pt0_ 2 ?_<;>refine pt0_ 3 ?_<;>refine Zbh 4 ?_<;>refine Za7 5 ?_<;>refine pt7_ 6 ?_<;>refine pt0_ 7 ?_<;>refine pt0_ 8 ?_<;>refine Za7 9 ?_<;>refine pt7_ 10 ?_<;>refine Zbh 11 ?_<;>(refine ZaI ?_;exact ZaJ)))));exact h.out):X:=r ⟨h⟩
theorem Ztu (t:List Int) (first:Int) (ins:List Int) (ht:t.length≤1048576) (hil:ins.length≤1048576):AC Tryz.prog 203 [.agg [.t (ints 3 t)],.t (.int .i64 first),.t (ints 3 ins)]
  (.tup [.agg [.fr true 3 (Zak (Zka t first ins).1)],.t (.bool (Zka t first ins).2)]):=by
 have hct:=ZlQ t ht
 have hok:=Zhu t
 have htl:=Zal t
 have hle:=Zal ins
 by_cases hpre:ZaH t=true∧0≤first∧first≤t.length
 ·obtain ⟨h1,h2,h3⟩:=hpre
  obtain ⟨f,rfl⟩:=Int.eq_ofNat_of_zero_le h2
  have hf:f≤t.length:=by omega
  have hir:inR (f:Int) 0 t.length=true:=Zae.2 ⟨h2,h3⟩
  rw [h1] at hok
  refine AC.go Tryz.func203 Tryz.ntmps203 fun B W hr=>?_
  repeat' (first|refine pa ?_|(refine pb ?_ ?_<;>intro hg)|(refine Zab (n:=20) ?_;(first|refine Zaa hok ?_|refine Zaa ((Zah _ _ _)) ?_|refine pz3 hct ?_))|refine po ?_|(refine ZsO ?_)|(refine ZsP ?_)|fail)
  refine aW.loopF rfl (fun q:Nat×Nat×List Int=>[(9,.t (.int .i64 q.1))]) [(1,_),(2,_),(3,_),(6,_),(8,_)] (fun q=>[(8,1,.box 46 [.hnd 11000 q.2.1]),(11000,q.2.1,.row true true 3 (Zak q.2.2))]) [(3,_,_),(6,_,_)] (fun q=>q.1≤ins.length∧q.2.2=Zsl t f (ins.take q.1)∧Zsq t f (ins.take q.1)=true) (fun q=>ins.length - q.1) (0,1,t) ⟨Nat.zero_le _,(Zuk t f).symm,ZtV t f⟩ (by (exact plei)) ?_
  rintro ⟨k,ep,zs⟩ hI
  obtain ⟨hk,hz,ha⟩:k≤ins.length∧zs=Zsl t f (ins.take k)∧Zsq t f (ins.take k)=true:=hI
  subst hz
  have hel2:(Zsl t f (ins.take k)).length=max t.length (f + min k ins.length):=by rw [ZsF hf,List.length_take]
  have hel:(Zak (Zsl t f (ins.take k))).length=(Zsl t f (ins.take k)).length:=Zal _
  have h400:=Zei h1
  refine pln ?_
  by_cases hkn:k < ins.length
  ·have hmx:max t.length (f + min k ins.length)≤1049000:=by omega
   have hel3:(Zsl t f (ins.take k)).length≤1049000:=by omega
   by_cases hft:f + k < t.length
   ·have hel4:(Zsl t f (ins.take k)).length=t.length:=by omega
    have hgd:(Zsl t f (ins.take k)).getD (f + k) default=t.getD (f + k) default:=by
     unfold Zsl
     rw [List.getD_eq_getElem?_getD,List.getElem?_append_left hft,← List.getD_eq_getElem?_getD]
    by_cases hx:(Zsl t f (ins.take k)).getD (f + k) default=ins.getD k default
    ·repeat' (first|refine pa ?_|(refine pb ?_ ?_<;>intro hg)|refine po ?_|(refine ZsO ?_)|(refine ZsP ?_)|fail)
     have hd:Zsl t f (ins.take (k + 1))=Zsl t f (ins.take k):=by rw [Ztl hkn hf,if_pos hft]
     exact ⟨(k + 1,ep,Zsl t f (ins.take k)),⟨hkn,hd.symm,ZsQ hkn ha fun h=>by rwa [← Zb6 hft,← Zb6 hkn,← hgd]⟩,by show ins.length - (k + 1) < ins.length - k;omega,by (exact ple)⟩
    ·have hno:Zka t f ins=(t,false):=by
      rw [Zka,if_neg]
      intro hc
      rw [hgd] at hx
      have hag:=ZtW hkn hft (by rwa [← Zb6 hft,← Zb6 hkn])
      unfold Ztj at hc
      rw [Int.toNat_natCast,hag,Bool.and_false] at hc
      cases hc
     rw [hno]
     repeat' (first|refine pa ?_|(refine pb ?_ ?_<;>intro hg)|(refine Zab (n:=20) ?_;(first|refine pz3 hct ?_))|refine po ?_|(refine ZsO ?_)|(refine ZsP ?_)|fail)
     exact pfg
   ·have hel4:(Zsl t f (ins.take k)).length≤f + k:=by omega
    repeat' (first|refine pa ?_|(refine pb ?_ ?_<;>intro hg)|refine po ?_|(refine ZsO ?_)|(refine ZsP ?_)|fail)
    exact ⟨(k + 1,ep + 1,Zsl t f (ins.take (k + 1))),⟨hkn,rfl,ZsQ hkn ha fun h=>absurd h hft⟩,by show ins.length - (k + 1) < ins.length - k;omega,by rw [Zuj hkn hf hft];(exact ple)⟩
  ·have hk':k=ins.length:=by omega
   subst hk'
   rw [List.take_length] at ha
   have hto:=Zhu (Zsl t f ins)
   rw [ZuB h1 hf ha] at hto
   rw [List.take_length]
   cases hao:Ztj t f ins with
   | false =>
    rw [hao] at hto
    rw [show Zka t f ins=(t,false) by rw [Zka,if_neg (by rw [hao];decide)]]
    repeat' (first|refine pa ?_|(refine pb ?_ ?_<;>intro hg)|(refine Zab (n:=20) ?_;(first|refine Zaa hto ?_|refine pz3 hct ?_))|refine po ?_|(refine ZsO ?_)|(refine ZsP ?_)|fail)
    exact pfg
   | true =>
    rw [hao] at hto
    rw [show Zka t f ins=(Zsl t f ins,true) by rw [Zka,if_pos hao];rfl]
    repeat' (first|refine pa ?_|(refine pb ?_ ?_<;>intro hg)|(refine Zab (n:=20) ?_;(first|refine Zaa hto ?_))|refine po ?_|(refine ZsO ?_)|(refine ZsP ?_)|fail)
    exact pfg
 ·have hno:Zka t first ins=(t,false):=by
   rw [Zka,if_neg]
   intro hc
   unfold Ztj at hc
   simp only [Bool.and_eq_true,decide_eq_true_eq] at hc
   exact hpre ⟨hc.1.1.1.1,hc.1.1.1.2.1,hc.1.1.1.2.2⟩
  rw [hno]
  by_cases h1:ZaH t=true
  ·rw [h1] at hok
   have hir:inR first 0 t.length=false:=Zb3 fun e=>hpre ⟨h1,e⟩
   refine AC.go Tryz.func203 Tryz.ntmps203 fun B W hr=>?_
   repeat' (first|refine pa ?_|(refine pb ?_ ?_<;>intro hg)|(refine Zab (n:=20) ?_;(first|refine Zaa hok ?_|refine Zaa ((Zah _ _ _)) ?_|refine pz3 hct ?_))|refine po ?_|(refine ZsO ?_)|(refine ZsP ?_)|fail)
   exact pfg
  ·rw [Bool.not_eq_true] at h1
   rw [h1] at hok
   refine AC.go Tryz.func203 Tryz.ntmps203 fun B W hr=>?_
   repeat' (first|refine pa ?_|(refine pb ?_ ?_<;>intro hg)|(refine Zab (n:=20) ?_;(first|refine Zaa hok ?_|refine pz3 hct ?_))|refine po ?_|(refine ZsO ?_)|(refine ZsP ?_)|fail)
   exact pfg
theorem Zth (ts:TS) (fr tk fs stk sm tm ec:Int) (ins acks:List Int) (hn:ts.length≤1048576) (hx:∀ k,k < ts.length→(ts.getD k default).length≤1048576):AC Tryz.prog 138 [.t (.lst false 46 (ts.map trackC)),.agg [.t (.int .i64 fr),.t (.int .i64 tk),.t (.int .i64 fs),.t (ints 3 ins),.t (ints 3 acks),.t (.int .i64 stk),.t (.int .i64 sm),.t (.int .i64 tm),.t (.int .i64 ec)]]
  (.tup [.fr false 46 ((ZtB ts fr tk fs ins acks stk sm tm ec).1.map trackC),.t (.bool (ZtB ts fr tk fs ins acks stk sm tm ec).2)]):=by
 have hct:=Zir ts hn hx
 have hto:=ZeA ts
 have hpo:=ZtE fr tk fs stk sm tm ec ins acks
 have hal:=Zal acks
 have htl:(ts.map trackC).length=ts.length:=List.length_map _
 by_cases h1:Zan ts=true
 case neg =>
  rw [show ZtB ts fr tk fs ins acks stk sm tm ec=(ts,false) from if_neg fun e=>h1 e.1]
  rw [Bool.not_eq_true] at h1
  rw [h1] at hto
  refine AC.go Tryz.func138 Tryz.ntmps138 fun B W hr=>?_
  repeat' (first|refine pa ?_|(refine pb ?_ ?_<;>intro hg)|(refine Zab (n:=20) ?_;(first|refine Zaa hto ?_|refine pz3 hct ?_))|refine po ?_|fail)
  exact pfg
 rw [h1] at hto
 by_cases h2:ZhP fr tk fs ins acks stk sm tm ec=true
 case neg =>
  rw [show ZtB ts fr tk fs ins acks stk sm tm ec=(ts,false) from if_neg fun e=>h2 e.2.1]
  rw [Bool.not_eq_true] at h2
  rw [h2] at hpo
  refine AC.go Tryz.func138 Tryz.ntmps138 fun B W hr=>?_
  repeat' (first|refine pa ?_|(refine pb ?_ ?_<;>intro hg)|(refine Zab (n:=20) ?_;(first|refine Zaa hto ?_|refine Zaa hpo ?_|refine pz3 hct ?_))|refine po ?_|fail)
  exact pfg
 rw [h2] at hpo
 by_cases h3:acks.length=ts.length
 case neg =>
  rw [show ZtB ts fr tk fs ins acks stk sm tm ec=(ts,false) from if_neg fun e=>h3 e.2.2]
  refine AC.go Tryz.func138 Tryz.ntmps138 fun B W hr=>?_
  repeat' (first|refine pa ?_|(refine pb ?_ ?_<;>intro hg)|(refine Zab (n:=20) ?_;(first|refine Zaa hto ?_|refine Zaa hpo ?_|refine pz3 hct ?_))|refine po ?_|fail)
  exact pfg
 have hT:ZtB ts fr tk fs ins acks stk sm tm ec=if (Zka (ts.getD fr.toNat default) fs ins).2=true then (ts.set fr.toNat (Zka (ts.getD fr.toNat default) fs ins).1,true) else (ts,false):=if_pos ⟨h1,h2,h3⟩
 obtain ⟨q1,q2,q3,q4,q5,q6,q7,q8⟩:=Zsy h2
 obtain ⟨f,rfl⟩:=Int.eq_ofNat_of_zero_le q3
 have hf:f < ts.length:=by omega
 have hai:=Ztu (ts.getD f default) fs ins (hx f hf) (by omega)
 rw [Int.toNat_natCast] at hT
 by_cases hb:(Zka (ts.getD f default) fs ins).2=true
 ·rw [if_pos hb] at hT
  rw [hb] at hai
  rw [hT]
  generalize (Zka (ts.getD f default) fs ins).1=nw at hai hT
  have hms:(ts.set f nw).map trackC=(ts.map trackC).set f [.lst true 3 (Zak nw)]:=by rw [List.map_set];rfl
  dsimp only
  rw [hms]
  refine AC.go Tryz.func138 Tryz.ntmps138 fun B W hr=>?_
  repeat' (first|refine pa ?_|(refine pb ?_ ?_<;>intro hg)|refine Zvh ?_|(refine Zab (n:=20) ?_;(first|refine Zaa hto ?_|refine Zaa hpo ?_|refine pz3 hct ?_|refine pz3 hai ?_))|refine po ?_|(refine pdr [] 16 (by (apply pct 16 32767 1;(focus (intro hd5;(apply pct 16 9215 5;(focus (intro hd4;(apply pct 16 16383 2;(focus (intro hd3;(apply pct 16 8703 6;(focus (intro hd2;(apply pct 16 1023 6;(focus (intro hd1;(refine pt0_ 0 ?_<;>refine ZaC 1 ?_<;>refine pt7_ 2 ?_<;>refine Za7 3 ?_<;>refine pt7_ 4 ?_<;>refine ZaC 5 ?_<;>refine pt7_ 6 ?_<;>refine ZaC 7 ?_<;>refine pt7_ 8 ?_<;>(refine pq2 9 13 ?_ ?_;(focus ((refine pop ?_;(refine Zab (n:=20) ?_;(first|refine pz3 hai ?_)))<;>(exact ptm hd1)));(focus ((refine pop ?_;refine pk3 ?_)<;>(exact ptm hd2)))))));(case main=>(refine pt0_ 10 ?_<;>refine Zes 11 ?_<;>refine Zes 12 ?_<;>(refine pq1 13 ?_;(focus ((refine pop ?_;refine pk3 ?_)<;>(exact ptm hd3)))))))));(case main=>((refine pq1 9 ?_;(focus ((refine pop ?_;(refine Zab (n:=20) ?_;(first|refine pz3 hai ?_)))<;>(exact ptm hd4)))))))));(case main=>((refine pq1 14 ?_;(focus ((refine pop ?_;(first|refine Zvh ?_|refine pk8 ?_))<;>(exact ptm hd5)))))))));(case main=>(refine pt0_ 10 ?_<;>refine Zes 11 ?_<;>refine Zes 12 ?_<;>(refine pq1 14 ?_;(focus ((refine pop ?_;(first|refine Zvh ?_|refine pk8 ?_))<;>(exact ptw hd5)))))))));(case main=>(refine pt1_ 15 ?_<;>(refine ZaI ?_;exact ZaJ))))) ?_)|(refine T104d3 ?_)|fail)
  exact pfg
 ·rw [if_neg hb] at hT
  rw [Bool.not_eq_true] at hb
  rw [hb] at hai
  rw [hT]
  refine AC.go Tryz.func138 Tryz.ntmps138 fun B W hr=>?_
  repeat' (first|refine pa ?_|(refine pb ?_ ?_<;>intro hg)|(refine Zab (n:=20) ?_;(first|refine Zaa hto ?_|refine Zaa hpo ?_|refine pz3 hct ?_|refine pz3 hai ?_))|refine po ?_|(refine pdr [] 16 (by (apply pct 16 32767 1;(focus (intro hd5;(apply pct 16 9215 5;(focus (intro hd4;(apply pct 16 16383 2;(focus (intro hd3;(apply pct 16 8703 6;(focus (intro hd2;(apply pct 16 1023 6;(focus (intro hd1;(refine pt0_ 0 ?_<;>refine ZaC 1 ?_<;>refine pt7_ 2 ?_<;>refine Za7 3 ?_<;>refine pt7_ 4 ?_<;>refine ZaC 5 ?_<;>refine pt7_ 6 ?_<;>refine ZaC 7 ?_<;>refine pt7_ 8 ?_<;>(refine pq2 9 13 ?_ ?_;(focus ((refine pop ?_;(refine Zab (n:=20) ?_;(first|refine pz3 hai ?_)))<;>(exact ptm hd1)));(focus ((refine pop ?_;refine pk3 ?_)<;>(exact ptm hd2)))))));(case main=>(refine pt0_ 10 ?_<;>refine Zes 11 ?_<;>refine Zes 12 ?_<;>(refine pq1 13 ?_;(focus ((refine pop ?_;refine pk3 ?_)<;>(exact ptm hd3)))))))));(case main=>((refine pq1 9 ?_;(focus ((refine pop ?_;(refine Zab (n:=20) ?_;(first|refine pz3 hai ?_)))<;>(exact ptm hd4)))))))));(case main=>((refine pq1 14 ?_;(focus ((refine pop ?_;refine pk8 ?_)<;>(exact ptm hd5)))))))));(case main=>(refine pt0_ 10 ?_<;>refine Zes 11 ?_<;>refine Zes 12 ?_<;>(refine pq1 14 ?_;(focus ((refine pop ?_;refine pk8 ?_)<;>(exact ptw hd5)))))))));(case main=>(refine pt1_ 15 ?_<;>(refine ZaI ?_;exact ZaJ))))) ?_)|(refine T104d3 ?_)|fail)
  exact pfg
end Go.Proofs.YthfaongbpdnlnaaGreat
