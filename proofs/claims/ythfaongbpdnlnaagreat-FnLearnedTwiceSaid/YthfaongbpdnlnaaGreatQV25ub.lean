/- What is proved: drawn peers stay drawn peers. Conditions: as each lemma says. -/
import Derived.Test.YthfaongbpdnlnaaGreatQPC
import Derived.Test.YthfaongbpdnlnaaGreatQV34
import Derived.Test.YthfaongbpdnlnaaGreatQT93d
namespace Go.Proofs.YthfaongbpdnlnaaGreat
set_option maxHeartbeats 4000000
set_option maxRecDepth 20000
set_option linter.unusedSimpArgs false
set_option linter.unusedVariables false
open Go.RowKit Ab
theorem T31d4 {X Y:Prop} (h:Y) (r:Hld Y→X:=by intro h;exact pdr [] 12 (by (apply pct 12 4095 0;(focus (intro hd8;(apply pct 12 1023 2;(focus (intro hd7;(apply pct 12 511 3;(focus (intro hd6;(apply pct 12 509 4;(focus (intro hd5;(apply pct 12 255 4;(focus (intro hd4;(apply pct 12 127 5;(focus (intro hd3;(apply pct 12 125 6;(focus (intro hd2;(apply pct 12 63 6;(focus (intro hd1;(refine ZaC 0 ?_<;>refine pt0_ 2 ?_<;>refine pt0_ 3 ?_<;>refine Za7 4 ?_<;>refine ZaC 5 ?_<;>(refine pq2 1 6 ?_ ?_;(focus ((refine pop ?_;refine pk7 ?_)<;>(exact ptm hd1)));(focus ((refine pop ?_;refine pk7 ?_)<;>(exact ptm hd2)))))));(case main=>((refine pq1 6 ?_;(focus ((refine pop ?_;refine pk7 ?_)<;>(exact ptm hd3)))))))));(case main=>(refine Ziv 7 ?_<;>(refine pq2 1 8 ?_ ?_;(focus ((refine pop ?_;refine pk7 ?_)<;>(exact ptm hd4)));(focus ((refine pop ?_;refine pk6 ?_)<;>(exact ptm hd5)))))))));(case main=>(refine Ziv 7 ?_<;>(refine pq1 8 ?_;(focus ((refine pop ?_;refine pk6 ?_)<;>(exact ptm hd6)))))))));(case main=>((refine pq1 8 ?_;(focus ((refine pop ?_;refine pk6 ?_)<;>(exact ptw hd6)))))))));(case main=>((refine pq1 1 ?_;(focus ((refine pop ?_;refine pk7 ?_)<;>(exact ptw hd6)))))))));(case main=>((refine pq1 9 ?_;(focus ((refine pop ?_;refine pk20 ?_)<;>(exact ptm hd7)))))))));(case main=>(refine ZaC 10 ?_<;>(refine pq1 11 ?_;(focus ((refine pop ?_;refine pk8 ?_)<;>(exact ptm hd8)))))))));(case main=>((refine ZaI ?_;exact ZaJ))))) h.out):X:=r ⟨h⟩
theorem ZtJ (ts:TS):(Zsn ts).length=ts.length:=List.length_map _
theorem Ztp {ts:TS} {k:Nat} (h:k < ts.length):Zak (Zsn (ts.take (k + 1)))=Zak (Zsn (ts.take k))++[[T.int .i64 ((ts.getD k default).length:Int)]]:=by
 rw [List.take_succ_eq_append_getElem h,Zsn,Zsn,Zak,Zak,List.map_append,List.map_append,List.map_map,List.map_cons,List.map_nil,List.map_cons,List.map_nil]
 simp [intC,h]
theorem Zud {α:Type} (xs:List α) {n m:Nat} (h:n=m∨(xs.length≤n∧xs.length≤m)):xs.take n=xs.take m:=by
 rcases h with h|⟨h1,h2⟩
 ·rw [h]
 ·rw [List.take_of_length_le h1,List.take_of_length_le h2]
theorem Zsi (ts:TS) (m a:Nat) (hok:Zan ts=true) (hm:m < ts.length) (ha:a≤(ts.getD m default).length):AC Tryz.prog 236 [.t (.lst false 46 (ts.map trackC)),.t (.int .i64 m),.t (.int .i64 a)]
  (.tup [.agg [.t (.int .i64 m),.t (.int .i64 0),.t (.int .i64 a),.fr true 3 (Zak (((ts.getD m default).drop a).take 40)),.fr true 3 (Zak (Zsn ts)),.t (.int .i64 0),.t (.int .i64 0),.t (.int .i64 0),.t (.int .i64 0)],.t (.bool true)]):=by
 have hto:=ZeA ts
 rw [hok] at hto
 obtain ⟨hl1,hl4⟩:=Zbi hok
 have hl400:=Zei (ZfG hok hm)
 refine AC.go Tryz.func236 Tryz.ntmps236 fun B W hr=>?_
 repeat' (first|refine pa ?_|(refine pb ?_ ?_<;>intro hg)|(refine z9 ?_;(first|refine Zaa hto ?_|refine Zaa (Zah _ _ _) ?_))|refine po ?_|(refine T31d4 ?_)|fail)
 all_goals try (exfalso;simp only [Bool.not_eq_true',Bool.not_eq_false',inR,decide_eq_true_eq,decide_eq_false_iff_not] at *;omega)
 refine aW.nilcell (o:=8) (i:=500) (k:=4) true 3 rfl rfl rfl rfl rfl ?_
 refine aW.loopF rfl (fun q:Nat×Nat×List (List T)=>[(10,.t (.int .i64 q.1))]) [(0,_),(8,_),(6,_)] (fun q=>[(8,1,.box 48 [.t (.int .i64 m),.t (.int .i64 0),.t (.int .i64 a),.hnd 46 2,.hnd 500 q.2.1,.t (.int .i64 0),.t (.int .i64 0),.t (.int .i64 0),.t (.int .i64 0)]),(500,q.2.1,.row true true 3 q.2.2)]) [(46,_,_),(6,_,_)] (fun q=>q.1≤ts.length∧q.2.2=Zak (Zsn (ts.take q.1))) (fun q=>ts.length - q.1) (0,1,[]) ⟨Nat.zero_le _,rfl⟩ (by (exact plei)) ?_
 rintro ⟨k,ep,es⟩ hI
 obtain ⟨hk,he⟩:k≤ts.length∧es=Zak (Zsn (ts.take k)):=hI
 subst he
 have hel2:(Zsn (ts.take k)).length=k:=by rw [ZtJ,List.length_take];omega
 have hel:(Zak (Zsn (ts.take k))).length=k:=by rw [Zal,hel2]
 refine pln ?_
 by_cases hkn:k < ts.length
 ·repeat' (first|refine pa ?_|(refine pb ?_ ?_<;>intro hg)|refine po ?_|(refine T31d4 ?_)|fail)
  exact ⟨(k + 1,ep + 1,_),⟨hkn,(Ztp hkn).symm⟩,by show ts.length - (k + 1) < ts.length - k;omega,by (exact ple)⟩
 ·repeat' (first|refine pa ?_|(refine pb ?_ ?_<;>intro hg)|refine po ?_|(refine T31d4 ?_)|fail)
  have hk':k=ts.length:=by omega
  subst hk'
  refine pfin ?_
  (repeat' (first|exact trivial|exact Or.inl rfl|exact rfl|refine And.intro ?_ ?_))
  ·refine congrArg (fun z=>some ((2:Nat),Ob.row true true 3 (Zak z))) (Zud ((ts.getD m default).drop a) ?_)
   rw [List.length_drop]
   split<;>omega
  ·exact congrArg (fun z=>some (ep,Ob.row true true 3 (Zak (Zsn z)))) List.take_length
theorem Ztg (p:Pr) (input:Int) (hp:Zeq p) (v:Pr) (hv:v=Zsg p input):AC Tryz.prog 235 [.agg (pcR p),.t (.int .i64 input)] (.tup [.agg (pcF v),.t (.bool (decide (ZoT p input)))]):=by
 have hpo:=Zgt p hp.tracks.1
 dsimp only [pcR] at hpo
 have hcp:=ZlR p hp
 dsimp only [pcR,pcF] at hcp
 by_cases h1:Zb9 p=true
 case neg =>
  have hno:¬ ZoT p input:=fun h=>h1 h.1
  rw [Bool.not_eq_true] at h1
  rw [h1] at hpo
  rw [Zsg,if_neg hno] at hv
  rw [decide_eq_false hno,hv]
  refine AC.go Tryz.func235 Tryz.ntmps235 fun B W hr=>?_
  dsimp only [pcR,pcF]
  repeat' (first|refine pa ?_|(refine pb ?_ ?_<;>intro hg)|(refine z9 ?_;(first|refine Zaa hpo ?_|refine pz3 hcp ?_))|refine po ?_|fail)
  exact pfg
 rw [h1] at hpo
 by_cases h2:inR input 0 15=true
 case neg =>
  have hno:¬ ZoT p input:=fun h=>h2 (Zae.2 h.2.1)
  rw [Bool.not_eq_true] at h2
  rw [Zsg,if_neg hno] at hv
  rw [decide_eq_false hno,hv]
  refine AC.go Tryz.func235 Tryz.ntmps235 fun B W hr=>?_
  dsimp only [pcR,pcF]
  repeat' (first|refine pa ?_|(refine pb ?_ ?_<;>intro hg)|(refine z9 ?_;(first|refine Zaa hpo ?_|refine Zaa ((Zah _ _ _)) ?_|refine pz3 hcp ?_))|refine po ?_|fail)
  exact pfg
 have hpp:=Zbq.1 h1
 obtain ⟨m,hme⟩:=Int.eq_ofNat_of_zero_le hpp.me.1
 have hmt:p.me.toNat=m:=by omega
 have hml:m < p.tracks.length:=by have:=hpp.me;omega
 have htk:=hpp.now.tick
 have hdl:=hpp.delay
 have htl:=hp.tracks.2 m hml
 have hlm:ZtA p=p.tracks.getD m default:=by rw [ZtA,hmt]
 have hel:(p.tracks.map trackC).length=p.tracks.length:=List.length_map _
 by_cases h3:((p.tracks.getD m default).length:Int)=p.now.tick + p.delay
 case neg =>
  have hno:¬ ZoT p input:=fun h=>h3 (by rw [← hlm];exact h.2.2.1)
  rw [Zsg,if_neg hno] at hv
  rw [decide_eq_false hno,hv]
  clear hpp h1
  refine AC.go Tryz.func235 Tryz.ntmps235 fun B W hr=>?_
  dsimp only [pcR,pcF]
  repeat' (first|refine pa ?_|(refine pb ?_ ?_<;>intro hg)|refine ZnM ?_|(refine z9 ?_;(first|refine Zaa hpo ?_|refine Zaa ((Zah _ _ _)) ?_|refine pz3 hcp ?_))|refine po ?_|fail)
  exact pfg
 by_cases h4:(p.tracks.getD m default).length < 400
 case neg =>
  have hno:¬ ZoT p input:=fun h=>h4 (by rw [← hlm];exact h.2.2.2)
  rw [Zsg,if_neg hno] at hv
  rw [decide_eq_false hno,hv]
  clear hpp h1
  refine AC.go Tryz.func235 Tryz.ntmps235 fun B W hr=>?_
  dsimp only [pcR,pcF]
  repeat' (first|refine pa ?_|(refine pb ?_ ?_<;>intro hg)|refine ZnM ?_|(refine z9 ?_;(first|refine Zaa hpo ?_|refine Zaa ((Zah _ _ _)) ?_|refine pz3 hcp ?_))|refine po ?_|fail)
  exact pfg
 have hyes:ZoT p input:=⟨h1,Zae.1 h2,by rw [hlm];exact h3,by rw [hlm];exact h4⟩
 rw [Zsg,if_pos hyes,hmt,hlm] at hv
 rw [decide_eq_true hyes,hv]
 have hq:=Zuu hml
 have hcl:=ZtM (x:=input) hml
 have htl2:=Zal (p.tracks.getD m default)
 clear hpp h1 hyes hlm
 refine AC.go Tryz.func235 Tryz.ntmps235 fun B W hr=>?_
 dsimp only [pcR,pcF]
 repeat' (first|(refine pth ?_)|((fail_if_success (with_reducible first|refine pA1 7 ?_|refine pA2 7 ?_|refine pA3 7 ?_));(first|refine pc ?_|(refine pbc ?_ ?_<;>intro hg)))|(first|refine pl ?_|(refine pbl ?_ ?_<;>intro hg))|(first|refine ZnM ?_|(refine z9 ?_;(first|refine Zaa hpo ?_|refine Zaa ((Zah _ _ _)) ?_|refine pz3 hcp ?_))|refine po ?_)|fail)
 refine aW.ghost (Zco.open_ (o:=9004) (j:=500) (ej:=1) (q:=m) rfl hq (by decide) rfl) ?_
 dsimp only [St.upds,updl]
 repeat' (first|(refine pth ?_)|((fail_if_success (with_reducible first|refine pA1 8 ?_|refine pA2 8 ?_|refine pA3 8 ?_));(first|refine pc ?_|(refine pbc ?_ ?_<;>intro hg)))|(first|refine pl ?_|(refine pbl ?_ ?_<;>intro hg))|(first|refine ZnM ?_|refine pxhst ?_|refine ZuQ ?_|refine po ?_)|(refine pdr [2,6] 17 (by (apply pct 17 131071 0;(focus (intro hd5;(apply pct 17 16383 3;(focus (intro hd4;(apply pct 17 8191 4;(focus (intro hd3;(apply pct 17 7167 5;(focus (intro hd2;(apply pct 17 4095 5;(focus (intro hd1;(refine ZaC 0 ?_<;>refine pt7_ 1 ?_<;>refine ZaC 2 ?_<;>refine pt7_ 3 ?_<;>refine ZaC 4 ?_<;>refine pt7_ 5 ?_<;>refine ZaC 6 ?_<;>refine pt7_ 7 ?_<;>(refine pti 8 ?_;(first|refine ZrQ ?_|refine pq17 ?_))<;>refine ZaC 9 ?_<;>refine pt0_ 11 ?_<;>(refine pq2 10 12 ?_ ?_;(focus ((refine pop ?_;(first|refine ZuQ ?_|refine pk7 ?_))<;>(exact ptm hd1)));(focus ((refine pop ?_;refine pk6 ?_)<;>(exact ptm hd2)))))));(case main=>((refine pq1 12 ?_;(focus ((refine pop ?_;refine pk6 ?_)<;>(exact ptm hd3)))))))));(case main=>((refine pq1 10 ?_;(focus ((refine pop ?_;(first|refine ZuQ ?_|refine pk7 ?_))<;>(exact ptw hd3)))))))));(case main=>((refine pq1 13 ?_;(focus ((refine pop ?_;refine pk20 ?_)<;>(exact ptm hd4)))))))));(case main=>((refine pti 14 ?_;(first|refine ZrQ ?_|refine pq17 ?_))<;>refine ZaC 15 ?_<;>(refine pq1 16 ?_;(focus ((refine pop ?_;(first|refine pxhst ?_|refine pk8 ?_))<;>(exact ptm hd5)))))))));(case main=>((refine ZaI ?_;exact ZaJ))))) ?_)|fail)
 refine aW.ghost (Zco.close (o:=9004) (j:=500) (s:=1) (c:=0) (i:=m) rfl rfl (by decide) (by have h:Zac Tryz.prog 46=some _:=Tryz.ti rfl;exact ZeD h) (by omega) (by decide) (by rw [List.length_map];omega) hcl) ?_
 dsimp only [St.upds,updl]
 repeat' (first|refine pa ?_|(refine pb ?_ ?_<;>intro hg)|refine po ?_|(refine pdr [] 17 (by (apply pct 17 131071 0;(focus (intro hd5;(apply pct 17 16383 3;(focus (intro hd4;(apply pct 17 8191 4;(focus (intro hd3;(apply pct 17 7167 5;(focus (intro hd2;(apply pct 17 4095 5;(focus (intro hd1;(refine ZaC 0 ?_<;>refine pt7_ 1 ?_<;>refine ZaC 2 ?_<;>refine pt7_ 3 ?_<;>refine ZaC 4 ?_<;>refine pt7_ 5 ?_<;>refine ZaC 6 ?_<;>refine pt7_ 7 ?_<;>refine Za7 8 ?_<;>refine ZaC 9 ?_<;>refine pt0_ 11 ?_<;>(refine pq2 10 12 ?_ ?_;(focus ((refine pop ?_;refine pk7 ?_)<;>(exact ptm hd1)));(focus ((refine pop ?_;refine pk6 ?_)<;>(exact ptm hd2)))))));(case main=>((refine pq1 12 ?_;(focus ((refine pop ?_;refine pk6 ?_)<;>(exact ptm hd3)))))))));(case main=>((refine pq1 10 ?_;(focus ((refine pop ?_;refine pk7 ?_)<;>(exact ptw hd3)))))))));(case main=>((refine pq1 13 ?_;(focus ((refine pop ?_;refine pk20 ?_)<;>(exact ptm hd4)))))))));(case main=>(refine Za7 14 ?_<;>refine ZaC 15 ?_<;>(refine pq1 16 ?_;(focus ((refine pop ?_;refine pk8 ?_)<;>(exact ptm hd5)))))))));(case main=>((refine ZaI ?_;exact ZaJ))))) ?_)|fail)
 exact pfg
theorem ZtR (l:Lv) (n seed me delay ahead ft fp fa:Int) (hl:l.length≤1048576) (p:Pr) (hv:p=Zup l n seed me delay ahead ft fp fa):AC Tryz.prog 233 [.agg [.t (.lst true 9 (Zai l))],.t (.int .i64 n),.t (.int .i64 seed),.t (.int .i64 me),.t (.int .i64 delay),.t (.int .i64 ahead),.agg [.t (.int .i64 ft),.t (.int .i64 fp),.t (.int .i64 fa)]] (.tup [.agg (pcF p),.t (.bool (decide (ZsV l n seed me delay ahead ft fp fa)))]):=by
 have hnw:=Zj4 l n seed hl _ rfl
 obtain ⟨w1,w2,w3⟩:=Zuq l n seed
 have hcw:=Zft (ZeI l n seed) w1 w2 w3
 by_cases hok:Zer l n seed
 case neg =>
  have hno:¬ ZsV l n seed me delay ahead ft fp fa:=fun h=>hok h.1
  rw [decide_eq_false hno]
  rw [Zup,if_neg hno] at hv
  subst hv
  rw [decide_eq_false hok] at hnw
  generalize ZeI l n seed=w at hnw hcw
  refine AC.go Tryz.func233 Tryz.ntmps233 fun B W hr=>?_
  dsimp only [pcF]
  repeat' (first|refine pa ?_|(refine pb ?_ ?_<;>intro hg)|(refine z9 ?_;(first|refine pz3 hnw ?_|refine pz3 hcw ?_))|refine po ?_|(refine Zv5 ?_)|fail)
  exact pfg
 rw [decide_eq_true hok] at hnw
 by_cases hd:inR delay 0 5=true
 case neg =>
  have hno:¬ ZsV l n seed me delay ahead ft fp fa:=fun h=>hd (Zae.2 h.2.1)
  rw [Bool.not_eq_true] at hd
  rw [decide_eq_false hno]
  rw [Zup,if_neg hno] at hv
  subst hv
  generalize ZeI l n seed=w at hnw hcw
  refine AC.go Tryz.func233 Tryz.ntmps233 fun B W hr=>?_
  dsimp only [pcF]
  repeat' (first|refine pa ?_|(refine pb ?_ ?_<;>intro hg)|(refine z9 ?_;(first|refine Zaa ((Zah _ _ _)) ?_|refine Zaa ((Zah _ _ _)) ?_|refine pz3 hnw ?_|refine pz3 hcw ?_))|refine po ?_|(refine Zv5 ?_)|fail)
  exact pfg
 obtain ⟨m,rfl⟩:=Int.eq_ofNat_of_zero_le (show 0≤n by have:=hok.2.1;omega)
 obtain ⟨d,rfl⟩:=Int.eq_ofNat_of_zero_le (Zae.1 hd).1
 have hm4:1≤m∧m≤4:=by have:=hok.2.1;omega
 have hd5:d≤5:=by have:=(Zae.1 hd).2;omega
 obtain ⟨w,hw⟩:∃ w,w=ZeI l m seed:=⟨_,rfl⟩
 have hpr:ZsD l m seed me d ahead ft fp fa=⟨me,d,ahead,seed,List.replicate m (List.replicate d 0),w,w,[],[],[Zgm w],ft,fp,fa,0,0⟩:=by
  unfold ZsD
  rw [Int.toNat_natCast,Int.toNat_natCast,← hw]
 rw [← hw] at hnw hcw
 have hws:=ZqW w
 have hpo:=Zgt ⟨me,d,ahead,seed,List.replicate m (List.replicate d 0),w,w,[],[],[Zgm w],ft,fp,fa,0,0⟩ (by show (List.replicate _ _).length≤_;rw [List.length_replicate];omega)
 dsimp only [pcR] at hpo
 refine AC.go Tryz.func233 Tryz.ntmps233 fun B W hr=>?_
 dsimp only [pcF]
 repeat' (first|refine pa ?_|(refine pb ?_ ?_<;>intro hg)|(refine z9 ?_;(first|refine Zaa ((Zah _ _ _)) ?_|refine Zaa ((Zah _ _ _)) ?_|refine pz3 hnw ?_|refine pz3 hcw ?_))|refine po ?_|(refine Zv5 ?_)|fail)
 refine aW.nilcell (o:=18) (i:=500) (k:=4) false 46 rfl rfl rfl rfl rfl ?_
 refine aW.loopF rfl (fun q:Nat×Nat=>[(19,.t (.int .i64 q.1))]) [(1,_),(4,_),(14,_),(15,_),(16,_),(18,_)] (fun q=>[(18,1,.box 40 [.t (.int .i64 me),.t (.int .i64 d),.t (.int .i64 ahead),.t (.int .i64 seed),.hnd 500 q.2,.hnd 24000 1,.t (.int .i64 w.tick),.t (.int .i64 w.seed),.hnd 24003 1,.hnd 24004 1,.hnd 33000 1,.t (.int .i64 w.tick),.t (.int .i64 w.seed),.hnd 33003 1,.hnd 33004 1,.t .nil,.t .nil,.t .nil,.t (.int .i64 ft),.t (.int .i64 fp),.t (.int .i64 fa),.t (.int .i64 0),.t (.int .i64 0)]),(500,q.2,.row false true 46 ((List.replicate q.1 (List.replicate d 0)).map trackC))]) [(14,_,_),(16,_,_),(24000,_,_),(24003,_,_),(24004,_,_),(33000,_,_),(33003,_,_),(33004,_,_)] (fun q=>q.1≤m) (fun q=>m - q.1) (0,1) (Nat.zero_le _) (by (exact plei)) ?_
 rintro ⟨k,ep⟩ hI
 have hk0:k≤m:=hI
 have hz:((List.replicate k (List.replicate d (0:Int))).map trackC).length=k:=by rw [List.length_map,List.length_replicate]
 have hz2:(List.replicate k (List.replicate d (0:Int))).length=k:=List.length_replicate
 refine pln ?_
 by_cases hk:k < m
 ·repeat' (first|refine pa ?_|(refine pb ?_ ?_<;>intro hg)|refine ZaX ?_|refine po ?_|(refine T90d3 ?_)|fail)
  exact ⟨(k + 1,ep + 1),hk,by show m - (k + 1) < m - k;omega,by rw [ZuR];(exact ple)⟩
 ·obtain rfl:k=m:=by omega
  by_cases hyes:ZsV l k seed me d ahead ft fp fa
  ·have hy:=hyes.2.2
   rw [hpr] at hy
   rw [hy] at hpo
   rw [Zup,if_pos hyes,hpr] at hv
   rw [decide_eq_true hyes,hv]
   repeat' (first|refine pa ?_|(refine pb ?_ ?_<;>intro hg)|(refine z9 ?_;(first|refine Zaa hws ?_|refine Zaa hpo ?_))|refine po ?_|fail)
   exact pfg
  ·have hy:¬ Zb9 (ZsD l k seed me d ahead ft fp fa)=true:=fun e=>hyes ⟨hok,Zae.1 hd,e⟩
   rw [hpr,Bool.not_eq_true] at hy
   rw [hy] at hpo
   rw [Zup,if_neg hyes] at hv
   rw [decide_eq_false hyes,hv]
   repeat' (first|refine pa ?_|(refine pb ?_ ?_<;>intro hg)|(refine z9 ?_;(first|refine Zaa hws ?_|refine Zaa hpo ?_))|refine po ?_|fail)
   exact pfg
theorem ZuE {l:Lv} {n seed me delay ahead ft fp fa:Int} (h:Zer l n seed) (hm:0≤me∧me < n) (hd:0≤delay∧delay≤5) (ha:1≤ahead∧ahead≤8) (hf:ZcX ft fp fa n=true):Zsw 5 (ZsD l n seed me delay ahead ft fp fa):=by
 have hw:ZeI l n seed=newV l n.toNat seed:=if_pos h
 have hn:=h.2.1
 obtain ⟨g1,g2⟩:=Zu2 (Zs7 h hm hd ha hf)
 have htl:(ZsD l n seed me delay ahead ft fp fa).tracks.length=n.toNat:=List.length_replicate
 have hlv:(ZsD l n seed me delay ahead ft fp fa).base.level=l:=by
  show (ZeI l n seed).level=l
  rw [hw]
  rfl
 refine ⟨?_,?_,g2,fun k hk=>?_⟩
 ·rw [hlv,htl,show ((n.toNat:Nat):Int)=n by omega]
  exact h
 ·rw [hlv,htl]
  show Good (newV l n.toNat seed) _
  rw [← hw]
  exact g1
 ·rw [htl] at hk
  show ((List.replicate n.toNat (List.replicate delay.toNat (0:Int))).getD k default).length≤5
  rw [ZtN hk,List.length_replicate]
  omega
structure PV where
 fr:Int
 tk:Int
 fs:Int
 stk:Int
 sm:Int
 tm:Int
 ec:Int
 ins:List Int
 acks:List Int
def PV.ok (p:PV):Prop:=ZhP p.fr p.tk p.fs p.ins p.acks p.stk p.sm p.tm p.ec=true
theorem Zs2 {m m':Nat} {p q:Pr} (h:Zsw m p) (hg:Good (newV p.base.level p.tracks.length p.seed) q) (hr:Zst q) (hl:q.tracks.length=p.tracks.length) (hs:q.seed=p.seed) (hsh:∀ k,k < q.tracks.length→(q.tracks.getD k default).length≤m'):Zsw m' q:=by
 have hlv:q.base.level=p.base.level:=hg.w0level.symm
 exact ⟨by rw [hlv,hl,hs];exact h.new,by rw [hlv,hl,hs];exact hg,hr,hsh⟩
theorem Zsw.mono {m m':Nat} {p:Pr} (h:Zsw m p) (hm:m≤m'):Zsw m' p:=⟨h.new,h.good,h.right,fun k hk=>Nat.le_trans (h.short k hk) hm⟩
theorem ZtO {ts:TS} {i:Nat} {x:List Int} {m:Nat} (h:∀ k,k < ts.length→(ts.getD k default).length≤m) (hi:i < ts.length) (hx:x.length≤m):∀ k,k < (ts.set i x).length→((ts.set i x).getD k default).length≤m:=fun k hk=>by
 rw [List.length_set] at hk
 rw [ZsJ hi]
 split
 ·exact hx
 ·exact h k hk
theorem ZtY {m:Nat} {p:Pr} {input:Int} (h:Zsw m p):Zsw (m + 1) (Zsg p input):=by
 obtain ⟨g1,g2⟩:=Zun (input:=input) h.good
 have hme:=h.good.ok.me
 by_cases hc:ZoT p input
 ·have e:Zsg p input={ p with tracks:=p.tracks.set p.me.toNat (ZtA p++[input]) }:=if_pos hc
  have hsm:=h.short p.me.toNat (by omega)
  refine Zs2 h g1 (g2 h.right) (by rw [e];exact List.length_set) (by rw [e]) ?_
  rw [e]
  refine ZtO (fun k hk=>Nat.le_succ_of_le (h.short k hk)) (by omega) ?_
  rw [List.length_append]
  exact Nat.succ_le_succ hsm
 ·have e:Zsg p input=p:=if_neg hc
  rw [e]
  exact h.mono (by omega)
theorem Ztx {m:Nat} {p q:Pr} (h:Zsw m p) (ha:ZpB p=some q):Zsw m q:=by
 have hc:ZnB p=true:=by
  apply Classical.byContradiction
  intro hn
  unfold ZpB at ha
  rw [if_neg hn] at ha
  cases ha
 obtain ⟨r,a1,a2,a3,a4⟩:=ZsS h.good hc
 rw [ha] at a1
 cases a1
 have hk:Kept p q:=a2▸Zto p _
 exact Zs2 h a3 (a4 h.right) (by rw [hk.tracks]) hk.seed (by rw [hk.tracks];exact h.short)
theorem Zty {m:Nat} {p:Pr} (h:Zsw m p):Zsw m (confirmV p):=by
 obtain ⟨a1,a2,a3,_⟩:=ZsT h.good h.right
 exact Zs2 h a1 a2 (by rw [a3.tracks]) a3.seed (by rw [a3.tracks];exact h.short)
theorem ZtX {m c:Nat} {p q:Pr} {x:PkV} (h:Zsw m p) (hl:Zsj p x=some q) (hx:∀ k,k < p.tracks.length→x.fr=(k:Int)→x.fs.toNat + x.ins.length≤(p.tracks.getD k default).length + c):Zsw (m + c) q:=by
 have hc:Zb9 p=true∧x.fr ≠ p.me∧(Zsk p x).2=true:=by
  apply Classical.byContradiction
  intro hn
  unfold Zsj at hl
  rw [if_neg hn] at hl
  cases hl
 obtain ⟨r,a1,a2,a3,a4,a5,a6,a7,a8,a9,a10,a11,a12,a13⟩:=Zul h.good hc.2.1 hc.2.2
 rw [hl] at a1
 cases a1
 obtain ⟨e1,e2,e3,e4,e5,e6⟩:=Ztb h.good.ok hc.2.2
 refine Zs2 h a2 a3 (by rw [a4];exact e1.1) a10 ?_
 rw [a4,e5]
 refine ZtO (fun k hk=>Nat.le_trans (h.short k hk) (by omega)) e3 ?_
 have h1:=h.short _ e3
 have h2:=hx _ e3 (by omega)
 unfold Ztj at e6
 simp only [Bool.and_eq_true,decide_eq_true_eq] at e6
 rw [ZsF (by have:=e6.1.1.1.2;omega)]
 omega
end Go.Proofs.YthfaongbpdnlnaaGreat
