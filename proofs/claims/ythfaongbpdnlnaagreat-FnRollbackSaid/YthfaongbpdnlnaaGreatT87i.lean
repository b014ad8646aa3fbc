/- What is proved: a contract on a new world, the program's.
   Conditions: the level's rows can be walked. -/
import Derived.Test.YthfaongbpdnlnaaGreatT87ub
namespace Go.Proofs.YthfaongbpdnlnaaGreat
set_option maxHeartbeats 4000000
set_option maxRecDepth 20000
set_option linter.unusedSimpArgs false
set_option linter.unusedVariables false
open Go.RowKit Ab
theorem ZjT (l:Lv) (n seed:Int) (hl:l.length≤1048576) (v:Wd) (hv:v=ZeI l n seed):AC Tryz.prog 64 [.agg [.t (.lst true 9 (Zai l))],.t (.int .i64 n),.t (.int .i64 seed)] (.tup [.agg [.fr true 9 (Zai v.level),.t (.int .i64 v.tick),.t (.int .i64 v.seed),.fr true 3 (Zak v.scores),.fr true 114 (v.bodies.map bodyC)],.t (.bool (decide (Zer l n seed)))]):=by
 have hc:=Zd0 l hl
 have hlv:=Zbz l
 by_cases hok:Zer l n seed
 case neg =>
  rw [decide_eq_false hok]
  rw [ZeI,if_neg hok] at hv
  subst hv
  by_cases h1:Zbc l=true
  case neg =>
   rw [Bool.not_eq_true] at h1
   rw [h1] at hlv
   refine AC.go Tryz.func64 Tryz.ntmps64 fun B W hr=>?_
   repeat' (first|refine pa ?_|(refine pb ?_ ?_<;>intro hg)|(refine Zab (n:=20) ?_;(first|refine Zaa hlv ?_|refine Zaa ((Zaq _ _ _)) ?_))|refine po ?_|fail)
   all_goals refine pfin ?_
   all_goals (exact pgiv)
  rw [h1] at hlv
  by_cases h2:inR n 1 4=true
  case neg =>
   rw [Bool.not_eq_true] at h2
   refine AC.go Tryz.func64 Tryz.ntmps64 fun B W hr=>?_
   repeat' (first|refine pa ?_|(refine pb ?_ ?_<;>intro hg)|(refine Zab (n:=20) ?_;(first|refine Zaa hlv ?_|refine Zaa ((Zaq _ _ _)) ?_))|refine po ?_|fail)
   all_goals refine pfin ?_
   all_goals (exact pgiv)
  have h3:inR seed 0 65535=false:=by
   refine Zb3 fun h3=>hok ⟨ZaU.1 h1,Zae.1 h2,h3⟩
  refine AC.go Tryz.func64 Tryz.ntmps64 fun B W hr=>?_
  repeat' (first|refine pa ?_|(refine pb ?_ ?_<;>intro hg)|(refine Zab (n:=20) ?_;(first|refine Zaa hlv ?_|refine Zaa ((Zaq _ _ _)) ?_))|refine po ?_|fail)
  all_goals refine pfin ?_
  all_goals (exact pgiv)
 obtain ⟨m,rfl⟩:=Int.eq_ofNat_of_zero_le (show 0≤n by have:=hok.2.1;omega)
 have hm4:1≤m∧m≤4:=by have:=hok.2.1;omega
 rw [ZaU.2 hok.1] at hlv
 have h2:inR (m:Int) 1 4=true:=Zae.2 hok.2.1
 have h3:inR seed 0 65535=true:=Zae.2 hok.2.2
 rw [decide_eq_true hok]
 rw [ZeI,if_pos hok,Int.toNat_natCast] at hv
 refine AC.go Tryz.func64 Tryz.ntmps64 fun B W hr=>?_
 repeat' (first|refine pa ?_|(refine pb ?_ ?_<;>intro hg)|(refine Zab (n:=20) ?_;(first|refine Zaa hlv ?_|refine Zaa ((Zaq _ _ _)) ?_|refine pz3 hc ?_))|refine po ?_|(refine pdr [3] 8 (by (apply pct 8 255 0;(focus (intro hd10;(apply pct 8 127 1;(focus (intro hd9;(apply pct 8 95 2;(focus (intro hd8;(apply pct 8 63 2;(focus (intro hd7;(apply pct 8 93 3;(focus (intro hd6;(apply pct 8 79 3;(focus (intro hd5;(apply pct 8 31 3;(focus (intro hd4;(apply pct 8 77 4;(focus (intro hd3;(apply pct 8 29 4;(focus (intro hd2;(apply pct 8 15 4;(focus (intro hd1;(refine pt7_ 0 ?_<;>refine pt0_ 2 ?_<;>refine pt0_ 3 ?_<;>(refine pq3 1 4 6 ?_ ?_ ?_;(focus ((refine pop ?_;(refine Zab (n:=20) ?_;(first|refine pz3 hc ?_)))<;>(exact ptm hd1)));(focus ((refine pop ?_;refine pk13 ?_)<;>(exact ptm hd2)));(focus ((refine pop ?_;refine pk3 ?_)<;>(exact ptm hd3)))))));(case main=>((refine pq2 4 6 ?_ ?_;(focus ((refine pop ?_;refine pk13 ?_)<;>(exact ptm hd4)));(focus ((refine pop ?_;refine pk3 ?_)<;>(exact ptm hd5)))))))));(case main=>((refine pq2 1 6 ?_ ?_;(focus ((refine pop ?_;(refine Zab (n:=20) ?_;(first|refine pz3 hc ?_)))<;>(exact ptw hd4)));(focus ((refine pop ?_;refine pk3 ?_)<;>(exact ptm hd6)))))))));(case main=>((refine pq2 1 4 ?_ ?_;(focus ((refine pop ?_;(refine Zab (n:=20) ?_;(first|refine pz3 hc ?_)))<;>(exact ptw hd5)));(focus ((refine pop ?_;refine pk13 ?_)<;>(exact ptw hd6)))))))));(case main=>((refine pq2 5 6 ?_ ?_;(focus ((refine pop ?_;refine pk5 ?_)<;>(exact ptm hd7)));(focus ((refine pop ?_;refine pk3 ?_)<;>(exact ptm hd8)))))))));(case main=>((refine pq1 4 ?_;(focus ((refine pop ?_;refine pk13 ?_)<;>(exact ptw hd8)))))))));(case main=>((refine pq1 1 ?_;(focus ((refine pop ?_;(refine Zab (n:=20) ?_;(first|refine pz3 hc ?_)))<;>(exact ptw hd8)))))))));(case main=>((refine pq1 6 ?_;(focus ((refine pop ?_;refine pk3 ?_)<;>(exact ptm hd9)))))))));(case main=>((refine pq1 5 ?_;(focus ((refine pop ?_;refine pk5 ?_)<;>(exact ptw hd9)))))))));(case main=>((refine pq1 7 ?_;(focus ((refine pop ?_;refine pk8 ?_)<;>(exact ptm hd10)))))))));(case main=>((refine ZaI ?_;exact ZaJ))))) ?_)|(refine pdr [3] 9 (by (apply pct 9 511 0;(focus (intro hd7;(apply pct 9 127 2;(focus (intro hd6;(apply pct 9 63 3;(focus (intro hd5;(apply pct 9 61 4;(focus (intro hd4;(apply pct 9 31 4;(focus (intro hd3;(apply pct 9 29 5;(focus (intro hd2;(apply pct 9 15 5;(focus (intro hd1;(refine ZaC 0 ?_<;>refine pt7_ 2 ?_<;>refine pt0_ 3 ?_<;>(refine pq2 1 4 ?_ ?_;(focus ((refine pop ?_;refine pk7 ?_)<;>(exact ptm hd1)));(focus ((refine pop ?_;(refine Zab (n:=20) ?_;(first|fail)))<;>(exact ptm hd2)))))));(case main=>((refine pq1 4 ?_;(focus ((refine pop ?_;(refine Zab (n:=20) ?_;(first|fail)))<;>(exact ptm hd3)))))))));(case main=>((refine pq2 1 5 ?_ ?_;(focus ((refine pop ?_;refine pk7 ?_)<;>(exact ptw hd3)));(focus ((refine pop ?_;refine pk6 ?_)<;>(exact ptm hd4)))))))));(case main=>((refine pq1 5 ?_;(focus ((refine pop ?_;refine pk6 ?_)<;>(exact ptm hd5)))))))));(case main=>((refine pq1 1 ?_;(focus ((refine pop ?_;refine pk7 ?_)<;>(exact ptw hd5)))))))));(case main=>((refine pq1 6 ?_;(focus ((refine pop ?_;refine pk20 ?_)<;>(exact ptm hd6)))))))));(case main=>(refine ZaC 7 ?_<;>(refine pq1 8 ?_;(focus ((refine pop ?_;refine pk8 ?_)<;>(exact ptm hd7)))))))));(case main=>((refine ZaI ?_;exact ZaJ))))) ?_)|fail)
 rw [show List.replicate ((m:Int)).toNat [T.int IntKind.i64 0]=Zak (List.replicate m 0) by rw [Int.toNat_natCast];simp [Zak,intC]]
 refine aW.nilcell (o:=8) (i:=501) (k:=4) true 114 rfl rfl rfl rfl rfl ?_
 refine aW.loopF rfl (fun q:Nat×Nat=>[(9,.t (.int .i64 q.1))]) [(1,_),(3,_),(6,_),(7,_),(8,_)] (fun q=>[(8,1,.box 30 [.hnd (1000 * 25) 1,.t (.int .i64 0),.t (.int .i64 seed),.hnd 28 1,.hnd 501 q.2]),(501,q.2,.row true true 114 ((upV l q.1).map bodyC))]) [(3,_,_),(6,_,_),(28,_,_),(1000 * 25,_,_)] (fun q=>q.1≤m) (fun q=>m - q.1) (0,1) (Nat.zero_le _) (by (exact plei)) ?_
 rintro ⟨k,ep⟩ hI
 have hk0:k≤m:=hI
 have hz2:((upV l k).map bodyC).length=k:=by rw [List.length_map,upV,List.length_map,List.length_range]
 have hz3:(upV l k).length=k:=by rw [upV,List.length_map,List.length_range]
 have hf:=Zey l k
 refine pln ?_
 by_cases hk:k < m
 ·repeat' (first|refine pa ?_|(refine pb ?_ ?_<;>intro hg)|refine ZaX ?_|(refine Zab (n:=20) ?_;(first|refine Zaa hf ?_))|refine po ?_|(refine pdr [3] 9 (by (apply pct 9 511 0;(focus (intro hd7;(apply pct 9 127 2;(focus (intro hd6;(apply pct 9 63 3;(focus (intro hd5;(apply pct 9 61 4;(focus (intro hd4;(apply pct 9 31 4;(focus (intro hd3;(apply pct 9 29 5;(focus (intro hd2;(apply pct 9 15 5;(focus (intro hd1;(refine ZaC 0 ?_<;>refine pt7_ 2 ?_<;>refine pt0_ 3 ?_<;>(refine pq2 1 4 ?_ ?_;(focus ((refine pop ?_;refine pk7 ?_)<;>(exact ptm hd1)));(focus ((refine pop ?_;(refine Zab (n:=20) ?_;(first|refine Zaa hf ?_)))<;>(exact ptm hd2)))))));(case main=>((refine pq1 4 ?_;(focus ((refine pop ?_;(refine Zab (n:=20) ?_;(first|refine Zaa hf ?_)))<;>(exact ptm hd3)))))))));(case main=>((refine pq2 1 5 ?_ ?_;(focus ((refine pop ?_;refine pk7 ?_)<;>(exact ptw hd3)));(focus ((refine pop ?_;(first|refine ZaX ?_|refine pk6 ?_))<;>(exact ptm hd4)))))))));(case main=>((refine pq1 5 ?_;(focus ((refine pop ?_;(first|refine ZaX ?_|refine pk6 ?_))<;>(exact ptm hd5)))))))));(case main=>((refine pq1 1 ?_;(focus ((refine pop ?_;refine pk7 ?_)<;>(exact ptw hd5)))))))));(case main=>((refine pq1 6 ?_;(focus ((refine pop ?_;refine pk20 ?_)<;>(exact ptm hd6)))))))));(case main=>(refine ZaC 7 ?_<;>(refine pq1 8 ?_;(focus ((refine pop ?_;refine pk8 ?_)<;>(exact ptm hd7)))))))));(case main=>((refine ZaI ?_;exact ZaJ))))) ?_)|fail)
  exact ⟨(k + 1,ep + 1),hk,by show m - (k + 1) < m - k;omega,by rw [Znl,ZiC];(exact ple)⟩
 ·obtain rfl:k=m:=by omega
  have hw:=Zcg l 0 seed (List.replicate k 0) (upV l k)
  rw [show (⟨l,0,seed,List.replicate k 0,upV l k⟩:Wd)=newV l k seed from rfl] at hw
  rw [Zh5,decide_eq_true hok] at hw
  have v4:(newV l k seed).scores=List.replicate k 0:=rfl
  have v5:(newV l k seed).bodies=upV l k:=rfl
  have v1:(newV l k seed).level=l:=rfl
  have v2:(newV l k seed).tick=0:=rfl
  have v3:(newV l k seed).seed=seed:=rfl
  rw [hv,v1,v2,v3,v4,v5]
  repeat' (first|refine pa ?_|(refine pb ?_ ?_<;>intro hg)|(refine Zab (n:=20) ?_;(first|refine Zaa hw ?_))|refine po ?_|fail)
  exact pfg
end Go.Proofs.YthfaongbpdnlnaaGreat
