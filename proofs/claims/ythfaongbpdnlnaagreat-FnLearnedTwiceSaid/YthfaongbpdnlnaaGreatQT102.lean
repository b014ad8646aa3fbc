/- What is proved: contracts on reading a world from its bytes. Conditions: as each lemma says. -/
import Derived.Test.YthfaongbpdnlnaaGreatQPC
import Derived.Test.YthfaongbpdnlnaaGreatQT93d
import Derived.Test.YthfaongbpdnlnaaGreatT23uc
import Derived.Test.YthfaongbpdnlnaaGreatQT103
namespace Go.Proofs.YthfaongbpdnlnaaGreat
set_option maxHeartbeats 4000000
set_option maxRecDepth 20000
set_option linter.unusedSimpArgs false
set_option linter.unusedVariables false
open Go.RowKit Ab
theorem ZfR (l:Lv) (s:List UInt8) (hl:l.length≤1048576) (hs:s.length≤1073741824) (v:Wd) (hv:v=(Za2 l s).getD ZcB):AC Tryz.prog 97 [.agg [.t (.lst true 9 (Zai l))],.t (.str s)] (.tup [.agg [.fr true 9 (Zai v.level),.t (.int .i64 v.tick),.t (.int .i64 v.seed),.fr true 3 (Zak v.scores),.fr true 114 (v.bodies.map bodyC)],.t (.bool (Za2 l s).isSome)]):=by
 have hun:=Zip s 0 hs
 have hcl:=ZcW l hl
 cases hu:Za6 s 0 with
 | none =>
  rw [Zpl hu] at hun
  rw [Zfo hu] at hv ⊢
  dsimp only [Option.getD_none,Option.isSome_none] at hv hun ⊢
  subst hv
  refine AC.go Tryz.func97 Tryz.ntmps97 fun B W hr=>?_
  repeat' (first|refine pa ?_|(refine pb ?_ ?_<;>intro hg)|(refine z9 ?_;(refine Zc5 hun ?_))|refine po ?_|fail)
  exact pfg
 | some r =>
 obtain ⟨xs,q⟩:=r
 rw [Zng hu] at hun
 rw [Zfp hu] at hv ⊢
 dsimp only at hun
 have hxl:=Zal xs
 have hxz:xs.length≤1073741824:=by
  obtain ⟨_,_,_,h,_⟩:=Zcf hu
  omega
 by_cases c1:q=(s.length:Int)
 case neg =>
  rw [if_neg fun e=>c1 e.1] at hv ⊢
  dsimp only [Option.getD_none,Option.isSome_none] at hv ⊢
  subst hv
  refine AC.go Tryz.func97 Tryz.ntmps97 fun B W hr=>?_
  repeat' (first|refine pa ?_|(refine pb ?_ ?_<;>intro hg)|(refine z9 ?_;(refine Zc5 hun ?_))|refine po ?_|fail)
  exact pfg
 by_cases c2:3≤xs.length
 case neg =>
  rw [if_neg fun e=>c2 e.2.1.1] at hv ⊢
  dsimp only [Option.getD_none,Option.isSome_none] at hv ⊢
  subst hv
  refine AC.go Tryz.func97 Tryz.ntmps97 fun B W hr=>?_
  repeat' (first|refine pa ?_|(refine pb ?_ ?_<;>intro hg)|(refine z9 ?_;(refine Zc5 hun ?_))|refine po ?_|fail)
  exact pfg
 by_cases c3:inR (xs.getD 2 default) 1 4=true
 case neg =>
  rw [if_neg fun e=>c3 (Zae.2 ⟨e.2.1.2.1,e.2.1.2.2.1⟩)] at hv ⊢
  rw [Bool.not_eq_true] at c3
  dsimp only [Option.getD_none,Option.isSome_none] at hv ⊢
  subst hv
  refine AC.go Tryz.func97 Tryz.ntmps97 fun B W hr=>?_
  repeat' (first|refine pa ?_|(refine pb ?_ ?_<;>intro hg)|refine pxkn ?_|(refine z9 ?_;(first|refine Zaa ((Zah _ _ _)) ?_|refine Zc5 hun ?_))|refine po ?_|fail)
  exact pfg
 obtain ⟨n,hn⟩:=Int.eq_ofNat_of_zero_le (show 0≤xs.getD 2 default by have:=(Zae.1 c3).1;omega)
 have hn4:1≤n∧n≤4:=by have:=Zae.1 c3;omega
 by_cases c4:3 + n≤xs.length
 case neg =>
  rw [if_neg fun e=>c4 ((Ze0 hn).1 e.2.1).2.2.1] at hv ⊢
  dsimp only [Option.getD_none,Option.isSome_none] at hv ⊢
  subst hv
  refine AC.go Tryz.func97 Tryz.ntmps97 fun B W hr=>?_
  repeat' (first|refine pa ?_|(refine pb ?_ ?_<;>intro hg)|refine pxkn ?_|(refine z9 ?_;(first|refine Zaa ((Zah _ _ _)) ?_|refine Zc5 hun ?_))|refine po ?_|fail)
  exact pfg
 have t1:Int.tmod ((xs.length:Int) - 3 - xs.getD 2 default) 9=((xs.length:Int) - 3 - xs.getD 2 default) % 9:=Int.tmod_eq_emod_of_nonneg (by omega)
 have hlk:=Ze0 hn
 have hrl:(xs.drop (3 + n)).length=xs.length - (3 + n):=List.length_drop
 by_cases c5:(xs.drop (3 + n)).length % 9=0
 case neg =>
  rw [if_neg fun e=>c5 (hlk.1 e.2.1).2.2.2] at hv ⊢
  dsimp only [Option.getD_none,Option.isSome_none] at hv ⊢
  subst hv
  refine AC.go Tryz.func97 Tryz.ntmps97 fun B W hr=>?_
  repeat' (first|refine pa ?_|(refine pb ?_ ?_<;>intro hg)|refine pxkn ?_|(refine z9 ?_;(first|refine Zaa ((Zah _ _ _)) ?_|refine Zc5 hun ?_))|refine po ?_|fail)
  exact pfg
 have e1:List.take ((3 + xs.getD 2 default).toNat - (3:Int).toNat) (List.drop (3:Int).toNat xs)=(xs.drop 3).take n:=by
  rw [hn]
  exact congrArg (fun m=>List.take m (List.drop 3 xs)) (by show (3 + (n:Int)).toNat - 3=n;omega)
 have hwe:=ZiX (l:=l) hn
 have hbd:∀ j,Zcj (xs.drop (3 + n)) (9 * j)=Zcj xs (3 + n + 9 * j):=fun j=>ZlV
 have hlo:ZfL xs:=hlk.2 ⟨c2,hn4,c4,c5⟩
 refine AC.go Tryz.func97 Tryz.ntmps97 fun B W hr=>?_
 repeat' (first|(refine pth ?_)|((fail_if_success (with_reducible first|refine pA1 6 ?_|refine pA2 6 ?_|refine pA3 6 ?_));(first|refine pc ?_|(refine pbc ?_ ?_<;>intro hg)))|(first|refine pl ?_|(refine pbl ?_ ?_<;>intro hg))|(first|refine pxkn ?_|(refine z9 ?_;(first|refine Zaa ((Zah _ _ _)) ?_|refine Zc5 hun ?_|refine pz3 hcl ?_))|refine po ?_)|(refine pdr [2] 16 (by (apply pct 16 65535 0;(focus (intro hd12;(apply pct 16 32767 1;(focus (intro hd11;(apply pct 16 24575 2;(focus (intro hd10;(apply pct 16 16383 2;(focus (intro hd9;(apply pct 16 20479 3;(focus (intro hd8;(apply pct 16 8191 3;(focus (intro hd7;(apply pct 16 20477 4;(focus (intro hd6;(apply pct 16 20223 4;(focus (intro hd5;(apply pct 16 4095 4;(focus (intro hd4;(apply pct 16 20221 5;(focus (intro hd3;(apply pct 16 4093 5;(focus (intro hd2;(apply pct 16 3839 5;(focus (intro hd1;(refine pt7_ 0 ?_<;>refine pt0_ 2 ?_<;>(refine pti 3 ?_;(first|refine pzkn ?_|refine pq17 ?_))<;>refine pt7_ 4 ?_<;>refine pt0_ 5 ?_<;>(refine pti 6 ?_;(first|refine pzkn ?_|refine pq17 ?_))<;>refine pt7_ 7 ?_<;>refine pt0_ 9 ?_<;>refine pt0_ 10 ?_<;>refine ZkV 11 ?_<;>(refine pq3 1 8 14 ?_ ?_ ?_;(focus ((refine pop ?_;(refine z9 ?_;(refine pz3 hcl ?_)))<;>(exact ptm hd1)));(focus ((refine pop ?_;refine pk6 ?_)<;>(exact ptm hd2)));(focus ((refine pop ?_;refine pk3 ?_)<;>(exact ptm hd3)))))));(case main=>((refine pq2 8 14 ?_ ?_;(focus ((refine pop ?_;refine pk6 ?_)<;>(exact ptm hd4)));(focus ((refine pop ?_;refine pk3 ?_)<;>(exact ptm hd5)))))))));(case main=>((refine pq2 1 14 ?_ ?_;(focus ((refine pop ?_;(refine z9 ?_;(refine pz3 hcl ?_)))<;>(exact ptw hd4)));(focus ((refine pop ?_;refine pk3 ?_)<;>(exact ptm hd6)))))))));(case main=>((refine pq2 1 8 ?_ ?_;(focus ((refine pop ?_;(refine z9 ?_;(refine pz3 hcl ?_)))<;>(exact ptw hd5)));(focus ((refine pop ?_;refine pk6 ?_)<;>(exact ptw hd6)))))))));(case main=>((refine pq2 12 14 ?_ ?_;(focus ((refine pop ?_;refine pk20 ?_)<;>(exact ptm hd7)));(focus ((refine pop ?_;refine pk3 ?_)<;>(exact ptm hd8)))))))));(case main=>((refine pq1 8 ?_;(focus ((refine pop ?_;refine pk6 ?_)<;>(exact ptw hd8)))))))));(case main=>((refine pq1 1 ?_;(focus ((refine pop ?_;(refine z9 ?_;(refine pz3 hcl ?_)))<;>(exact ptw hd8)))))))));(case main=>((refine pq2 13 14 ?_ ?_;(focus ((refine pop ?_;refine pk5 ?_)<;>(exact ptm hd9)));(focus ((refine pop ?_;refine pk3 ?_)<;>(exact ptm hd10)))))))));(case main=>((refine pq1 12 ?_;(focus ((refine pop ?_;refine pk20 ?_)<;>(exact ptw hd10)))))))));(case main=>((refine pq1 14 ?_;(focus ((refine pop ?_;refine pk3 ?_)<;>(exact ptm hd11)))))))));(case main=>((refine pq1 13 ?_;(focus ((refine pop ?_;refine pk5 ?_)<;>(exact ptw hd11)))))))));(case main=>((refine pq1 15 ?_;(focus ((refine pop ?_;refine pk8 ?_)<;>(exact ptm hd12)))))))));(case main=>((refine ZaI ?_;exact ZaJ))))) ?_)|fail)
 rw [e1]
 generalize (xs.drop 3).take n=sc at hwe ⊢
 generalize xs.drop (3 + n)=rs at hwe hlk hrl c5 hbd
 obtain ⟨m,hm⟩:∃ m,rs.length=9 * m:=⟨rs.length / 9,by omega⟩
 rw [hn,show (3 + (n:Int))=((3 + n:Nat):Int) by omega]
 repeat' (first|refine pa ?_|(refine pb ?_ ?_<;>intro hg)|refine po ?_|fail)
 refine aW.nilcell (o:=10) (i:=501) (k:=4) true 114 rfl rfl rfl rfl rfl ?_
 refine aW.loopF rfl (fun q:Nat×Nat×Nat=>[(11,.t (.int .i64 q.1))]) [(1,_),(4,_),(6,_),(10,_)] (fun q=>[(10,1,.box 30 [.hnd (1000 * 64) 1,.t (.int .i64 (xs.getD 0 default)),.t (.int .i64 (xs.getD 1 default)),.hnd 71 2,.hnd 501 q.2.2]),(501,q.2.2,.row true true 114 ((ZbJ rs q.2.1).map bodyC))]) [(4,_,_),(1000 * 64,_,_),(71,_,_)] (fun q=>q.1=3 + n + 9 * q.2.1∧q.2.1≤m) (fun q=>m - q.2.1) (3 + n,0,1) ⟨rfl,Nat.zero_le _⟩ (by (exact plei)) ?_
 rintro ⟨k,j,ep⟩ hI
 obtain ⟨hkj,hjm⟩:k=3 + n + 9 * j∧j≤m:=hI
 have hbu:((ZbJ rs j).map bodyC).length=j:=by rw [List.length_map,Zdy]
 have hbu2:=Zdy rs j
 refine pln ?_
 by_cases hj:j < m
 ·have hsn:(ZbJ rs (j + 1)).map bodyC=(ZbJ rs j).map bodyC++[bodyC (Zcj xs k)]:=by
   rw [ZfT,List.map_append,hbd,← hkj]
   rfl
  have hk9:k + 9≤xs.length:=by omega
  repeat' (first|refine pa ?_|(refine pb ?_ ?_<;>intro hg)|refine ZaX ?_|refine pxkn ?_|refine po ?_|(refine pdr [] 51 (by (apply pct 51 2251799813685247 0;(focus (intro hd7;(apply pct 51 562949953421311 2;(focus (intro hd6;(apply pct 51 281474976710655 3;(focus (intro hd5;(apply pct 51 281474976710653 4;(focus (intro hd4;(apply pct 51 140737488355327 4;(focus (intro hd3;(apply pct 51 140737488355325 5;(focus (intro hd2;(apply pct 51 70368744177663 5;(focus (intro hd1;(refine ZaC 0 ?_<;>refine pt0_ 2 ?_<;>refine pt0_ 3 ?_<;>(refine pti 4 ?_;(first|refine pzkn ?_|refine pq17 ?_))<;>refine pt7_ 5 ?_<;>refine pt0_ 6 ?_<;>refine pt0_ 7 ?_<;>refine Zbh 8 ?_<;>(refine pti 9 ?_;(first|refine pzkn ?_|refine pq17 ?_))<;>refine pt7_ 10 ?_<;>refine pt0_ 11 ?_<;>refine pt0_ 12 ?_<;>refine Zbh 13 ?_<;>(refine pti 14 ?_;(first|refine pzkn ?_|refine pq17 ?_))<;>refine pt7_ 15 ?_<;>refine pt0_ 16 ?_<;>refine pt0_ 17 ?_<;>refine Zbh 18 ?_<;>(refine pti 19 ?_;(first|refine pzkn ?_|refine pq17 ?_))<;>refine pt7_ 20 ?_<;>refine pt0_ 21 ?_<;>refine pt0_ 22 ?_<;>refine Zbh 23 ?_<;>(refine pti 24 ?_;(first|refine pzkn ?_|refine pq17 ?_))<;>refine pt7_ 25 ?_<;>refine pt0_ 26 ?_<;>refine pt0_ 27 ?_<;>refine Zbh 28 ?_<;>(refine pti 29 ?_;(first|refine pzkn ?_|refine pq17 ?_))<;>refine pt7_ 30 ?_<;>refine pt0_ 31 ?_<;>refine pt0_ 32 ?_<;>refine Zbh 33 ?_<;>(refine pti 34 ?_;(first|refine pzkn ?_|refine pq17 ?_))<;>refine pt7_ 35 ?_<;>refine pt0_ 36 ?_<;>refine pt0_ 37 ?_<;>refine Zbh 38 ?_<;>(refine pti 39 ?_;(first|refine pzkn ?_|refine pq17 ?_))<;>refine pt7_ 40 ?_<;>refine pt0_ 41 ?_<;>refine pt0_ 42 ?_<;>refine Zbh 43 ?_<;>(refine pti 44 ?_;(first|refine pzkn ?_|refine pq17 ?_))<;>refine pt7_ 45 ?_<;>(refine pq2 1 46 ?_ ?_;(focus ((refine pop ?_;refine pk7 ?_)<;>(exact ptm hd1)));(focus ((refine pop ?_;refine pk5 ?_)<;>(exact ptm hd2)))))));(case main=>((refine pq1 46 ?_;(focus ((refine pop ?_;refine pk5 ?_)<;>(exact ptm hd3)))))))));(case main=>((refine pq2 1 47 ?_ ?_;(focus ((refine pop ?_;refine pk7 ?_)<;>(exact ptw hd3)));(focus ((refine pop ?_;(first|refine ZaX ?_|refine pk6 ?_))<;>(exact ptm hd4)))))))));(case main=>((refine pq1 47 ?_;(focus ((refine pop ?_;(first|refine ZaX ?_|refine pk6 ?_))<;>(exact ptm hd5)))))))));(case main=>((refine pq1 1 ?_;(focus ((refine pop ?_;refine pk7 ?_)<;>(exact ptw hd5)))))))));(case main=>((refine pq1 48 ?_;(focus ((refine pop ?_;refine pk20 ?_)<;>(exact ptm hd6)))))))));(case main=>(refine ZaC 49 ?_<;>(refine pq1 50 ?_;(focus ((refine pop ?_;refine pk8 ?_)<;>(exact ptm hd7)))))))));(case main=>((refine ZaI ?_;exact ZaJ))))) ?_)|fail)
  exact ⟨(k + 9,j + 1,ep + 1),⟨by show k + 9=3 + n + 9 * (j + 1);omega,hj⟩,by show m - (j + 1) < m - j;omega,by rw [hsn];(exact ple)⟩
 ·obtain rfl:j=m:=by omega
  have hwb:=Zfl ⟨l,xs.getD 0 default,xs.getD 1 default,sc,ZbI rs⟩
  dsimp only at hwb
  rw [show (⟨l,xs.getD 0 default,xs.getD 1 default,sc,ZbI rs⟩:Wd)=Zb7 l xs from hwe.symm] at hwb
  rw [ZgN hm]
  have hwk:=Zps (l:=l) (by rw [hu,c1]) hlo
  generalize Zbp (Zb7 l xs)=bs at hwb hwk
  by_cases hw:ZaW (Zb7 l xs)=true
  case neg =>
   rw [if_neg fun e=>hw e.2.2] at hv ⊢
   dsimp only [Option.getD_none,Option.isSome_none] at hv ⊢
   subst hv
   have hne:¬ bs=s:=fun e=>hw (hwk.1 e)
   repeat' (first|refine pa ?_|(refine pb ?_ ?_<;>intro hg)|(refine z9 ?_;(refine Zaa hwb ?_))|refine po ?_|fail)
   all_goals first
    | (exfalso;simp [hne] at hg;done)
    | (refine pfin ?_;(exact pgiv);done)
  case pos =>
   rw [if_pos ⟨c1,hlo,hw⟩] at hv ⊢
   dsimp only [Option.getD_some,Option.isSome_some] at hv ⊢
   rw [hwe] at hv
   subst hv
   have hne:bs=s:=hwk.2 hw
   subst hne
   repeat' (first|refine pa ?_|(refine pb ?_ ?_<;>intro hg)|(refine z9 ?_;(refine Zaa hwb ?_))|refine po ?_|fail)
   all_goals first
    | (exfalso;simp at hg;done)
    | (refine pfin ?_;(exact pgiv);done)
theorem Zn7 (xs:List Int) (hx:xs.length ≠ 0) (hl:xs.length≤1073741824):AC Tryz.prog 186 [.t (ints 3 xs)] (.fr true 3 (Zak xs)):=by
 have hxl:=Zal xs
 refine AC.go Tryz.func186 Tryz.ntmps186 fun B W hr=>?_
 repeat' (first|refine pa ?_|(refine pb ?_ ?_<;>intro hg)|refine po ?_|fail)
 refine Zab (n:=10) ?_
 refine OpS.eql_nil rfl (Tryz.ti rfl) rfl rfl rfl (by cases xs with|nil=>exact absurd rfl hx|cons a r=>(show (intC a++(Zak r).flatten).length ≠ 0;simp [intC])) ?_
 repeat' (first|refine pa ?_|(refine pb ?_ ?_<;>intro hg)|refine po ?_|fail)
 exact pfg
theorem Zi1 (l:Lv) (s:List UInt8) (hl:l.length≤1048576) (hs:s.length≤1073741824) (v:Wd) (hv:v=(Za2 l s).getD ZcB):AC Tryz.prog 105 [.agg [.t (.lst true 9 (Zai l))],.t (.str s)] (.tup [.agg [.fr true 9 (Zai v.level),.t (.int .i64 v.tick),.t (.int .i64 v.seed),.fr true 3 (Zak v.scores),.fr true 114 (v.bodies.map bodyC)],.t (.bool (Za2 l s).isSome)]):=by
 have hun:=Zig s 0 hs
 have hcl:=Zd0 l hl
 cases hu:Za6 s 0 with
 | none =>
  rw [Zpl hu] at hun
  rw [Zfo hu] at hv ⊢
  dsimp only [Option.getD_none,Option.isSome_none] at hv hun ⊢
  subst hv
  refine AC.go Tryz.func105 Tryz.ntmps105 fun B W hr=>?_
  repeat' (first|refine pa ?_|(refine pb ?_ ?_<;>intro hg)|(refine z9 ?_;(refine Zc5 hun ?_))|refine po ?_|fail)
  exact pfg
 | some r =>
 obtain ⟨xs,q⟩:=r
 rw [Zng hu] at hun
 rw [Zfp hu] at hv ⊢
 dsimp only at hun
 have hxl:=Zal xs
 have hxz:xs.length≤1073741824:=by
  obtain ⟨_,_,_,h,_⟩:=Zcf hu
  omega
 by_cases c1:q=(s.length:Int)
 case neg =>
  rw [if_neg fun e=>c1 e.1] at hv ⊢
  dsimp only [Option.getD_none,Option.isSome_none] at hv ⊢
  subst hv
  refine AC.go Tryz.func105 Tryz.ntmps105 fun B W hr=>?_
  repeat' (first|refine pa ?_|(refine pb ?_ ?_<;>intro hg)|(refine z9 ?_;(refine Zc5 hun ?_))|refine po ?_|fail)
  exact pfg
 by_cases c2:3≤xs.length
 case neg =>
  rw [if_neg fun e=>c2 e.2.1.1] at hv ⊢
  dsimp only [Option.getD_none,Option.isSome_none] at hv ⊢
  subst hv
  refine AC.go Tryz.func105 Tryz.ntmps105 fun B W hr=>?_
  repeat' (first|refine pa ?_|(refine pb ?_ ?_<;>intro hg)|(refine z9 ?_;(refine Zc5 hun ?_))|refine po ?_|fail)
  exact pfg
 by_cases c3:inR (xs.getD 2 default) 1 4=true
 case neg =>
  rw [if_neg fun e=>c3 (Zae.2 ⟨e.2.1.2.1,e.2.1.2.2.1⟩)] at hv ⊢
  rw [Bool.not_eq_true] at c3
  dsimp only [Option.getD_none,Option.isSome_none] at hv ⊢
  subst hv
  refine AC.go Tryz.func105 Tryz.ntmps105 fun B W hr=>?_
  repeat' (first|refine pa ?_|(refine pb ?_ ?_<;>intro hg)|refine pxkn ?_|(refine z9 ?_;(first|refine Zaa ((Zaq _ _ _)) ?_|refine Zc5 hun ?_))|refine po ?_|fail)
  exact pfg
 obtain ⟨n,hn⟩:=Int.eq_ofNat_of_zero_le (show 0≤xs.getD 2 default by have:=(Zae.1 c3).1;omega)
 have hn4:1≤n∧n≤4:=by have:=Zae.1 c3;omega
 by_cases c4:3 + n≤xs.length
 case neg =>
  rw [if_neg fun e=>c4 ((Ze0 hn).1 e.2.1).2.2.1] at hv ⊢
  dsimp only [Option.getD_none,Option.isSome_none] at hv ⊢
  subst hv
  refine AC.go Tryz.func105 Tryz.ntmps105 fun B W hr=>?_
  repeat' (first|refine pa ?_|(refine pb ?_ ?_<;>intro hg)|refine pxkn ?_|(refine z9 ?_;(first|refine Zaa ((Zaq _ _ _)) ?_|refine Zc5 hun ?_))|refine po ?_|fail)
  exact pfg
 have e1:List.take ((3 + xs.getD 2 default).toNat - (3:Int).toNat) (List.drop (3:Int).toNat xs)=(xs.drop 3).take n:=by
  rw [hn]
  exact congrArg (fun m=>List.take m (List.drop 3 xs)) (by show (3 + (n:Int)).toNat - 3=n;omega)
 have e2:List.take ((xs.length:Int).toNat - (3 + xs.getD 2 default).toNat) (List.drop (3 + xs.getD 2 default).toNat xs)=xs.drop (3 + n):=by
  rw [hn,show (3 + (n:Int)).toNat=3 + n by omega,Int.toNat_natCast]
  exact List.take_of_length_le (by rw [List.length_drop];exact Nat.le_refl _)
 have hck:=Zn7 ((xs.drop 3).take n) (by rw [List.length_take,List.length_drop];omega) (by rw [List.length_take,List.length_drop];omega)
 rw [← e1] at hck
 have hwe:=ZiX (l:=l) hn
 refine AC.go Tryz.func105 Tryz.ntmps105 fun B W hr=>?_
 repeat' (first|(refine pth ?_)|((fail_if_success (with_reducible first|refine pA1 10 ?_|refine pA2 10 ?_|refine pA3 10 ?_));(first|refine pc ?_|(refine pbc ?_ ?_<;>intro hg)))|(first|refine pl ?_|(refine pbl ?_ ?_<;>intro hg))|(first|refine pxkn ?_|(refine z9 ?_;(first|refine Zaa ((Zaq _ _ _)) ?_|refine Zc5 hun ?_|refine pz3 hcl ?_|refine pz3 hck ?_))|refine po ?_)|(refine pdr [2] 11 (by (apply pct 11 2047 0;(focus (intro hd6;(apply pct 11 1023 1;(focus (intro hd5;(apply pct 11 767 2;(focus (intro hd4;(apply pct 11 511 2;(focus (intro hd3;(apply pct 11 765 3;(focus (intro hd2;(apply pct 11 255 3;(focus (intro hd1;(refine pt7_ 0 ?_<;>refine pt0_ 2 ?_<;>(refine pti 3 ?_;(first|refine pzkn ?_|refine pq17 ?_))<;>refine pt7_ 4 ?_<;>refine pt0_ 5 ?_<;>(refine pti 6 ?_;(first|refine pzkn ?_|refine pq17 ?_))<;>refine pt7_ 7 ?_<;>(refine pq2 1 9 ?_ ?_;(focus ((refine pop ?_;(refine z9 ?_;(refine pz3 hcl ?_)))<;>(exact ptm hd1)));(focus ((refine pop ?_;refine pk3 ?_)<;>(exact ptm hd2)))))));(case main=>((refine pq2 8 9 ?_ ?_;(focus ((refine pop ?_;refine pk5 ?_)<;>(exact ptm hd3)));(focus ((refine pop ?_;refine pk3 ?_)<;>(exact ptm hd4)))))))));(case main=>((refine pq1 1 ?_;(focus ((refine pop ?_;(refine z9 ?_;(refine pz3 hcl ?_)))<;>(exact ptw hd4)))))))));(case main=>((refine pq1 9 ?_;(focus ((refine pop ?_;refine pk3 ?_)<;>(exact ptm hd5)))))))));(case main=>((refine pq1 8 ?_;(focus ((refine pop ?_;refine pk5 ?_)<;>(exact ptw hd5)))))))));(case main=>((refine pq1 10 ?_;(focus ((refine pop ?_;refine pk8 ?_)<;>(exact ptm hd6)))))))));(case main=>((refine ZaI ?_;exact ZaJ))))) ?_)|fail)
 rw [e1,e2]
 have hlk:=Ze0 hn
 have hrl:(xs.drop (3 + n)).length=xs.length - (3 + n):=List.length_drop
 generalize (xs.drop 3).take n=sc at hwe ⊢
 generalize xs.drop (3 + n)=rs at hwe hlk hrl ⊢
 have hrz:rs.length≤1073741824:=by omega
 have hre:=Zal rs
 have t1:Int.tmod (rs.length:Int) 9=(rs.length:Int) % 9:=Int.tmod_eq_emod_of_nonneg (by omega)
 have t2:Int.tdiv (rs.length:Int) 9=(rs.length:Int) / 9:=Int.tdiv_eq_ediv_of_nonneg (by omega)
 by_cases c5:rs.length % 9=0
 case neg =>
  rw [if_neg fun e=>c5 (hlk.1 e.2.1).2.2.2] at hv ⊢
  dsimp only [Option.getD_none,Option.isSome_none] at hv ⊢
  subst hv
  repeat' (first|refine pa ?_|(refine pb ?_ ?_<;>intro hg)|refine po ?_|fail)
  exact pfg
 obtain ⟨m,hm⟩:∃ m,rs.length=9 * m:=⟨rs.length / 9,by omega⟩
 have hbl:(ZbI rs).length=m:=by rw [Zkd];omega
 by_cases c6:m≤24
 case neg =>
  rw [if_neg fun e=>c6 (by have:=Zmm e.2.2;rw [hwe] at this;rw [← hbl];exact this)] at hv ⊢
  dsimp only [Option.getD_none,Option.isSome_none] at hv ⊢
  subst hv
  repeat' (first|refine pa ?_|(refine pb ?_ ?_<;>intro hg)|refine po ?_|fail)
  exact pfg
 repeat' (first|refine pa ?_|(refine pb ?_ ?_<;>intro hg)|refine po ?_|fail)
 refine aW.nilcell (o:=10) (i:=501) (k:=4) true 114 rfl rfl rfl rfl rfl ?_
 refine aW.loopF rfl (fun q:Nat×Nat×Nat=>[(12,.t (.int .i64 q.1))]) [(1,_),(4,_),(6,_),(10,_),(11,_)] (fun q=>[(10,1,.box 30 [.hnd (1000 * 49) 1,.t (.int .i64 (xs.getD 0 default)),.t (.int .i64 (xs.getD 1 default)),.hnd (1000 * 61) 1,.hnd 501 q.2.2]),(501,q.2.2,.row true true 114 ((ZbJ rs q.2.1).map bodyC))]) [(4,_,_),(1000 * 49,_,_),(1000 * 61,_,_)] (fun q=>q.1=9 * q.2.1∧q.2.1≤m) (fun q=>m - q.2.1) (0,0,1) ⟨rfl,Nat.zero_le _⟩ (by (exact plei)) ?_
 rintro ⟨k,j,ep⟩ hI
 obtain ⟨hkj,hjm⟩:k=9 * j∧j≤m:=hI
 have hbu:((ZbJ rs j).map bodyC).length=j:=by rw [List.length_map,Zdy]
 have hbu2:=Zdy rs j
 refine pln ?_
 by_cases hj:j < m
 ·repeat' (first|(refine pth ?_)|((fail_if_success (with_reducible first|refine pA1 16 ?_|refine pA2 16 ?_|refine pA3 16 ?_));(first|refine pc ?_|(refine pbc ?_ ?_<;>intro hg)))|(first|refine pl ?_|(refine pbl ?_ ?_<;>intro hg))|(refine po ?_)|fail)
  have e3:List.take (((k:Int) + 9).toNat - (k:Int).toNat) (List.drop (k:Int).toNat rs)=(rs.drop k).take 9:=by
   rw [show ((k:Int) + 9).toNat - (k:Int).toNat=9 by omega,Int.toNat_natCast]
  rw [e3]
  have hsn:(ZbJ rs (j + 1)).map bodyC=(ZbJ rs j).map bodyC++[bodyC (Zcj ((rs.drop k).take 9) 0)]:=by
   rw [ZfT,List.map_append,← hkj,ZnA]
   rfl
  have hfl:((rs.drop k).take 9).length=9:=by rw [List.length_take,List.length_drop];omega
  generalize (rs.drop k).take 9=fs at hfl hsn ⊢
  have hfe:=Zal fs
  have hfm:(List.map intC fs).length=9:=by rw [List.length_map,hfl]
  repeat' (first|refine pa ?_|(refine pb ?_ ?_<;>intro hg)|refine ZaX ?_|refine pxkn ?_|refine po ?_|(refine pdr [] 34 (by (apply pct 34 17179869183 0;(focus (intro hd7;(apply pct 34 4294967295 2;(focus (intro hd6;(apply pct 34 2147483647 3;(focus (intro hd5;(apply pct 34 2147483645 4;(focus (intro hd4;(apply pct 34 1073741823 4;(focus (intro hd3;(apply pct 34 1073741821 5;(focus (intro hd2;(apply pct 34 536870911 5;(focus (intro hd1;(refine ZaC 0 ?_<;>refine pt0_ 2 ?_<;>(refine pti 3 ?_;(first|refine pzkn ?_|refine pq17 ?_))<;>refine pt7_ 4 ?_<;>refine pt0_ 5 ?_<;>(refine pti 6 ?_;(first|refine pzkn ?_|refine pq17 ?_))<;>refine pt7_ 7 ?_<;>refine pt0_ 8 ?_<;>(refine pti 9 ?_;(first|refine pzkn ?_|refine pq17 ?_))<;>refine pt7_ 10 ?_<;>refine pt0_ 11 ?_<;>(refine pti 12 ?_;(first|refine pzkn ?_|refine pq17 ?_))<;>refine pt7_ 13 ?_<;>refine pt0_ 14 ?_<;>(refine pti 15 ?_;(first|refine pzkn ?_|refine pq17 ?_))<;>refine pt7_ 16 ?_<;>refine pt0_ 17 ?_<;>(refine pti 18 ?_;(first|refine pzkn ?_|refine pq17 ?_))<;>refine pt7_ 19 ?_<;>refine pt0_ 20 ?_<;>(refine pti 21 ?_;(first|refine pzkn ?_|refine pq17 ?_))<;>refine pt7_ 22 ?_<;>refine pt0_ 23 ?_<;>(refine pti 24 ?_;(first|refine pzkn ?_|refine pq17 ?_))<;>refine pt7_ 25 ?_<;>refine pt0_ 26 ?_<;>(refine pti 27 ?_;(first|refine pzkn ?_|refine pq17 ?_))<;>refine pt7_ 28 ?_<;>(refine pq2 1 29 ?_ ?_;(focus ((refine pop ?_;refine pk7 ?_)<;>(exact ptm hd1)));(focus ((refine pop ?_;refine pk5 ?_)<;>(exact ptm hd2)))))));(case main=>((refine pq1 29 ?_;(focus ((refine pop ?_;refine pk5 ?_)<;>(exact ptm hd3)))))))));(case main=>((refine pq2 1 30 ?_ ?_;(focus ((refine pop ?_;refine pk7 ?_)<;>(exact ptw hd3)));(focus ((refine pop ?_;(first|refine ZaX ?_|refine pk6 ?_))<;>(exact ptm hd4)))))))));(case main=>((refine pq1 30 ?_;(focus ((refine pop ?_;(first|refine ZaX ?_|refine pk6 ?_))<;>(exact ptm hd5)))))))));(case main=>((refine pq1 1 ?_;(focus ((refine pop ?_;refine pk7 ?_)<;>(exact ptw hd5)))))))));(case main=>((refine pq1 31 ?_;(focus ((refine pop ?_;refine pk20 ?_)<;>(exact ptm hd6)))))))));(case main=>(refine ZaC 32 ?_<;>(refine pq1 33 ?_;(focus ((refine pop ?_;refine pk8 ?_)<;>(exact ptm hd7)))))))));(case main=>((refine ZaI ?_;exact ZaJ))))) ?_)|fail)
  exact ⟨(k + 9,j + 1,ep + 1),⟨by show k + 9=9 * (j + 1);omega,hj⟩,by show m - (j + 1) < m - j;omega,by rw [hsn];(exact ple)⟩
 ·obtain rfl:j=m:=by omega
  have hwo:=Zcg l (xs.getD 0 default) (xs.getD 1 default) sc (ZbI rs)
  rw [show (⟨l,xs.getD 0 default,xs.getD 1 default,sc,ZbI rs⟩:Wd)=Zb7 l xs from hwe.symm] at hwo
  rw [ZgN hm]
  by_cases hw:ZaW (Zb7 l xs)=true
  case neg =>
   rw [if_neg fun e=>hw e.2.2] at hv ⊢
   rw [Bool.not_eq_true] at hw
   rw [hw] at hwo
   dsimp only [Option.getD_none,Option.isSome_none] at hv ⊢
   subst hv
   repeat' (first|refine pa ?_|(refine pb ?_ ?_<;>intro hg)|(refine z9 ?_;(refine Zaa hwo ?_))|refine po ?_|fail)
   exact pfg
  case pos =>
   rw [if_pos ⟨c1,hlk.2 ⟨c2,hn4,c4,c5⟩,hw⟩] at hv ⊢
   rw [hw] at hwo
   dsimp only [Option.getD_some,Option.isSome_some] at hv ⊢
   rw [hwe] at hv
   subst hv
   repeat' (first|refine pa ?_|(refine pb ?_ ?_<;>intro hg)|(refine z9 ?_;(refine Zaa hwo ?_))|refine po ?_|fail)
   exact pfg
end Go.Proofs.YthfaongbpdnlnaaGreat
