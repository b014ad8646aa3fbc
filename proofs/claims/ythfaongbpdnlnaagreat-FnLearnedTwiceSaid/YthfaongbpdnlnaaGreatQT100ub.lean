/- What is proved: contracts on repairing what was wrong. Conditions: as each lemma says. -/
import Derived.Test.YthfaongbpdnlnaaGreatQPC
import Derived.Test.YthfaongbpdnlnaaGreatQT35ud
namespace Go.Proofs.YthfaongbpdnlnaaGreat
set_option maxHeartbeats 4000000
set_option maxRecDepth 20000
set_option linter.unusedSimpArgs false
set_option linter.unusedVariables false
open Go.RowKit Ab
theorem Zny (p:Pr) (t:Int) (hp:Zeq p) (hd:Zc0 p) (v:Pr) (hv:v=(Zcv p t).getD p):AC Tryz.prog 38 [.agg (pcR p),.t (.int .i64 t)] (.tup [.agg (pcF v),.t (.bool (Zcv p t).isSome)]):=by
 have hcp:=ZlR p hp
 dsimp only [pcR,pcF] at hcp
 have hsa:=ZiA p t hp hd _ rfl
 dsimp only [pcR] at hsa
 cases hs:Zbn p t with
 | none =>
  rw [hs] at hsa
  rw [ZoU hs] at hv ⊢
  dsimp only [Option.getD_none,Option.isSome_none] at hv hsa ⊢
  subst hv
  refine AC.go Tryz.func38 Tryz.ntmps38 fun B W hr=>?_
  dsimp only [pcR,pcF]
  repeat' (first|refine pa ?_|(refine pb ?_ ?_<;>intro hg)|(refine z9 ?_;(first|refine pz3 hcp ?_|refine pz3 hsa ?_))|refine po ?_|fail)
  exact pfg
 | some w =>
  obtain ⟨⟨h1,h2,h3⟩,hw,hl,ht,hn⟩:=Zgc hs
  have hq:=Zme hs
  have hpp:=Zbq.1 h1
  have hu:=hpp.used
  have hsv:=hpp.saves
  have hbt:=hpp.base.tick
  have hpv:=hp.saves
  have hpu:=hp.used.1
  rw [hs] at hsa
  rw [Zm0 hs] at hv ⊢
  dsimp only [Option.getD_some,Option.isSome_some] at hv hsa ⊢
  obtain ⟨k,hk⟩:=Int.eq_ofNat_of_zero_le (show 0≤t - p.base.tick by omega)
  have hkt:t=p.base.tick + k:=by omega
  have hks:k < p.saves.length:=by omega
  have hku:k < p.used.length:=by omega
  unfold ZhB at hv
  rw [hk,Int.toNat_natCast] at hv
  have hpo:=Zgt v (by rw [hv];exact hp.tracks.1)
  dsimp only [pcR] at hpo
  rw [show Zb9 v=true by rw [hv];unfold ZhB at hq;rw [hk,Int.toNat_natCast] at hq;exact Zbq.2 hq] at hpo
  rw [hv] at hpo ⊢
  dsimp only at hpo ⊢
  have e1:List.take ((t - p.base.tick).toNat - (0:Int).toNat) (List.drop (0:Int).toNat p.saves)=p.saves.take k:=by rw [hk];rfl
  have e2:List.take ((t - p.base.tick).toNat - (0:Int).toNat) (List.drop (0:Int).toNat p.used)=p.used.take k:=by rw [hk];rfl
  have hsl:(p.saves.map saveC).length=p.saves.length:=List.length_map _
  have hul:(p.used.map trackC).length=p.used.length:=List.length_map _
  rw [← e1,← e2] at hpo ⊢
  refine AC.go Tryz.func38 Tryz.ntmps38 fun B W hr=>?_
  dsimp only [pcR,pcF]
  repeat' (first|refine pa ?_|(refine pb ?_ ?_<;>intro hg)|refine ZkW ?_|(refine z9 ?_;(first|refine Zaa hpo ?_|refine pz3 hcp ?_|refine pz3 hsa ?_))|refine po ?_|fail)
  exact pfg
theorem Zrn (p:Pr) (hp:Zeq p) (h1:¬ ZnB p=true) (v:Pr) (hv:v=(ZpB p).getD p):advS 52 p v (ZpB p).isSome:=by
 unfold advS
 have hcp:=ZlR p hp
 dsimp only [pcR,pcF] at hcp
 have hca:=Zqo p hp
 dsimp only [pcR] at hca
 rw [Zro h1] at hv ⊢
 rw [Bool.not_eq_true] at h1
 rw [h1] at hca
 dsimp only [Option.getD_none,Option.isSome_none] at hv ⊢
 subst hv
 refine AC.go Tryz.func52 Tryz.ntmps52 fun B W hr=>?_
 repeat' (first|refine pa ?_|(refine pb ?_ ?_<;>intro hg)|(refine z9 ?_;(first|refine Zaa hca ?_|refine pz3 hcp ?_))|refine po ?_|fail)
 exact pfg
theorem Zrb (p:Pr) (hp:Zeq p) (hd:Zc0 p) (h1:ZnB p=true) (h0:p.saves.length ≠ 0) (hs:Zbn p (p.saves.getD (p.saves.length - 1) default).1=none) (v:Pr) (hv:v=(ZpB p).getD p):advS 52 p v (ZpB p).isSome:=by
 unfold advS
 have hcp:=ZlR p hp
 dsimp only [pcR,pcF] at hcp
 have hca:=Zqo p hp
 dsimp only [pcR] at hca
 rw [h1] at hca
 obtain ⟨hpp,hu8,hmt⟩:=Zqj h1
 have hsl:(p.saves.map saveC).length=p.saves.length:=List.length_map _
 have hul:(p.used.map trackC).length=p.used.length:=List.length_map _
 have hse:=hpp.saves
 have hus:=hpp.used
 have hld:=hpp.lead
 have hah:=hpp.ahead
 have hps:=hp.saves
 have hbt:=hpp.base.tick
 have hnt:=hpp.now.tick
 have hix:(p.saves.length:Int) - 1=((p.saves.length - 1:Nat):Int):=by omega
 have hsa:=ZiA p (p.saves.getD (p.saves.length - 1) default).1 hp hd _ rfl
 dsimp only [pcR] at hsa
 rw [Zqq h1 h0 hs] at hv ⊢
 rw [hs] at hsa
 dsimp only [Option.getD_none,Option.isSome_none,Option.map_none] at hv hsa ⊢
 have hwb:=Zfl p.base
 subst hv
 refine AC.go Tryz.func52 Tryz.ntmps52 fun B W hr=>?_
 repeat' (first|refine pa ?_|(refine pb ?_ ?_<;>intro hg)|refine ZnM ?_|(refine z9 ?_;(first|refine Zaa hca ?_|refine Zaa hwb ?_|refine pz3 hcp ?_|refine pz3 hsa ?_))|refine po ?_|(refine pdr [1] 15 (by (apply pct 15 32767 0;(focus (intro hd11;(apply pct 15 8191 2;(focus (intro hd10;(apply pct 15 4095 3;(focus (intro hd9;(apply pct 15 4093 4;(focus (intro hd8;(apply pct 15 2047 4;(focus (intro hd7;(apply pct 15 2045 5;(focus (intro hd6;(apply pct 15 1023 5;(focus (intro hd5;(apply pct 15 1021 6;(focus (intro hd4;(apply pct 15 511 6;(focus (intro hd3;(apply pct 15 509 7;(focus (intro hd2;(apply pct 15 255 7;(focus (intro hd1;(refine ZaC 0 ?_<;>refine ZaC 2 ?_<;>refine ZaC 3 ?_<;>refine pt7_ 4 ?_<;>refine pt0_ 5 ?_<;>refine ZaC 6 ?_<;>refine pt7_ 7 ?_<;>(refine pq2 1 8 ?_ ?_;(focus ((refine pop ?_;refine pk7 ?_)<;>(exact ptm hd1)));(focus ((refine pop ?_;(refine z9 ?_;(refine Zaa hwb ?_)))<;>(exact ptm hd2)))))));(case main=>((refine pq1 8 ?_;(focus ((refine pop ?_;(refine z9 ?_;(refine Zaa hwb ?_)))<;>(exact ptm hd3)))))))));(case main=>((refine pq2 1 9 ?_ ?_;(focus ((refine pop ?_;refine pk7 ?_)<;>(exact ptw hd3)));(focus ((refine pop ?_;(refine z9 ?_;(fail)))<;>(exact ptm hd4)))))))));(case main=>((refine pq1 9 ?_;(focus ((refine pop ?_;(refine z9 ?_;(fail)))<;>(exact ptm hd5)))))))));(case main=>((refine pq2 1 10 ?_ ?_;(focus ((refine pop ?_;refine pk7 ?_)<;>(exact ptw hd5)));(focus ((refine pop ?_;refine pk5 ?_)<;>(exact ptm hd6)))))))));(case main=>((refine pq1 10 ?_;(focus ((refine pop ?_;refine pk5 ?_)<;>(exact ptm hd7)))))))));(case main=>((refine pq2 1 11 ?_ ?_;(focus ((refine pop ?_;refine pk7 ?_)<;>(exact ptw hd7)));(focus ((refine pop ?_;refine pk6 ?_)<;>(exact ptm hd8)))))))));(case main=>((refine pq1 11 ?_;(focus ((refine pop ?_;refine pk6 ?_)<;>(exact ptm hd9)))))))));(case main=>((refine pq1 1 ?_;(focus ((refine pop ?_;refine pk7 ?_)<;>(exact ptw hd9)))))))));(case main=>((refine pq1 12 ?_;(focus ((refine pop ?_;refine pk20 ?_)<;>(exact ptm hd10)))))))));(case main=>(refine ZaC 13 ?_<;>(refine pq1 14 ?_;(focus ((refine pop ?_;refine pk8 ?_)<;>(exact ptm hd11)))))))));(case main=>((refine ZaI ?_;exact ZaJ))))) ?_)|(refine pdr [1] 15 (by (apply pct 15 16383 1;(focus (intro hd5;(apply pct 15 4607 5;(focus (intro hd4;(apply pct 15 8191 2;(focus (intro hd3;(apply pct 15 4351 6;(focus (intro hd2;(apply pct 15 511 6;(focus (intro hd1;(refine pt7_ 0 ?_<;>refine ZaC 1 ?_<;>refine pt7_ 2 ?_<;>refine pt0_ 3 ?_<;>refine Zbh 4 ?_<;>(refine pti 5 ?_;(first|refine ZrQ ?_|refine pq17 ?_))<;>refine ZaC 6 ?_<;>refine pt7_ 7 ?_<;>(refine pq2 8 12 ?_ ?_;(focus ((refine pop ?_;(refine z9 ?_;(refine pz3 hsa ?_)))<;>(exact ptm hd1)));(focus ((refine pop ?_;refine pk3 ?_)<;>(exact ptm hd2)))))));(case main=>(refine pt0_ 9 ?_<;>refine Zes 10 ?_<;>refine Zes 11 ?_<;>(refine pq1 12 ?_;(focus ((refine pop ?_;refine pk3 ?_)<;>(exact ptm hd3)))))))));(case main=>((refine pq1 8 ?_;(focus ((refine pop ?_;(refine z9 ?_;(refine pz3 hsa ?_)))<;>(exact ptm hd4)))))))));(case main=>((refine pq1 13 ?_;(focus ((refine pop ?_;refine pk8 ?_)<;>(exact ptm hd5)))))))));(case main=>(refine pt0_ 9 ?_<;>refine Zes 10 ?_<;>refine Zes 11 ?_<;>(refine pq1 13 ?_;(focus ((refine pop ?_;refine pk8 ?_)<;>(exact ptw hd5)))))))));(case main=>(refine pt1_ 14 ?_<;>(refine ZaI ?_;exact ZaJ))))) ?_)|fail)
 exact pfg
theorem ZqT (p:Pr) (hp:Zeq p) (hd:Zc0 p) (h1:ZnB p=true) (h0:p.saves.length=0) (v:Pr) (hv:v=(ZpB p).getD p):advS 52 p v (ZpB p).isSome:=by
 unfold advS
 have hcp:=ZlR p hp
 dsimp only [pcR,pcF] at hcp
 have hca:=Zqo p hp
 dsimp only [pcR] at hca
 rw [h1] at hca
 obtain ⟨hpp,hu8,hmt⟩:=Zqj h1
 have hsl:(p.saves.map saveC).length=p.saves.length:=List.length_map _
 have hul:(p.used.map trackC).length=p.used.length:=List.length_map _
 have hse:=hpp.saves
 have hus:=hpp.used
 have hld:=hpp.lead
 have hah:=hpp.ahead
 have hps:=hp.saves
 have hbt:=hpp.base.tick
 have hnt:=hpp.now.tick
 have hra:=Zn8 p.tracks p.now.tick
 obtain ⟨l1,l2,l3⟩:=hp.now
 have hfs:=Zio p.now (Zpc p) p.ft p.fp p.fa l1 l2 l3 (Zqy p) rfl
 have hwn:=Zfl p.now
 rw [show (rowV p.tracks p.now.tick).1=Zpc p from rfl] at hra
 rw [ZqK h1 h0] at hv ⊢
 have hwb:=Zfl p.base
 have hdt:=Zqt (Zbp p.base) (Zbp p.now) (by have:=ZgG (w:=p.now);omega)
 dsimp only [Option.getD_some,Option.isSome_some] at hv ⊢
 unfold Zq1 at hv
 rw [hv]
 dsimp only
 rw [List.map_append,List.map_append]
 generalize Zqy p=nw at hfs ⊢
 generalize Zpc p=rw at hfs hra ⊢
 generalize Zbp p.now=bn at hwn hdt ⊢
 generalize Zbp p.base=bb at hwb hdt ⊢
 refine AC.go Tryz.func52 Tryz.ntmps52 fun B W hr=>?_
 repeat' (first|(refine pth ?_)|((fail_if_success (with_reducible first|refine pA1 13 ?_|refine pA2 13 ?_|refine pA3 13 ?_));(first|refine pc ?_|(refine pbc ?_ ?_<;>intro hg)))|(first|refine pl ?_|(refine pbl ?_ ?_<;>intro hg))|(first|refine ZaX ?_|(refine z9 ?_;(first|refine Zaa hca ?_|refine Zaa hwn ?_|refine Zaa hwb ?_|refine Zaa hdt ?_|refine pz3 hcp ?_|refine pz3 hra ?_))|refine po ?_)|(refine pdr [1] 15 (by (apply pct 15 32767 0;(focus (intro hd11;(apply pct 15 8191 2;(focus (intro hd10;(apply pct 15 4095 3;(focus (intro hd9;(apply pct 15 4093 4;(focus (intro hd8;(apply pct 15 2047 4;(focus (intro hd7;(apply pct 15 2045 5;(focus (intro hd6;(apply pct 15 1023 5;(focus (intro hd5;(apply pct 15 1021 6;(focus (intro hd4;(apply pct 15 511 6;(focus (intro hd3;(apply pct 15 509 7;(focus (intro hd2;(apply pct 15 255 7;(focus (intro hd1;(refine ZaC 0 ?_<;>refine ZaC 2 ?_<;>refine ZaC 3 ?_<;>refine pt7_ 4 ?_<;>refine pt0_ 5 ?_<;>refine ZaC 6 ?_<;>refine pt7_ 7 ?_<;>(refine pq2 1 8 ?_ ?_;(focus ((refine pop ?_;refine pk7 ?_)<;>(exact ptm hd1)));(focus ((refine pop ?_;(refine z9 ?_;(first|refine Zaa hwn ?_|refine Zaa hwb ?_)))<;>(exact ptm hd2)))))));(case main=>((refine pq1 8 ?_;(focus ((refine pop ?_;(refine z9 ?_;(first|refine Zaa hwn ?_|refine Zaa hwb ?_)))<;>(exact ptm hd3)))))))));(case main=>((refine pq2 1 9 ?_ ?_;(focus ((refine pop ?_;refine pk7 ?_)<;>(exact ptw hd3)));(focus ((refine pop ?_;(refine z9 ?_;(refine Zaa hdt ?_)))<;>(exact ptm hd4)))))))));(case main=>((refine pq1 9 ?_;(focus ((refine pop ?_;(refine z9 ?_;(refine Zaa hdt ?_)))<;>(exact ptm hd5)))))))));(case main=>((refine pq2 1 10 ?_ ?_;(focus ((refine pop ?_;refine pk7 ?_)<;>(exact ptw hd5)));(focus ((refine pop ?_;refine pk5 ?_)<;>(exact ptm hd6)))))))));(case main=>((refine pq1 10 ?_;(focus ((refine pop ?_;refine pk5 ?_)<;>(exact ptm hd7)))))))));(case main=>((refine pq2 1 11 ?_ ?_;(focus ((refine pop ?_;refine pk7 ?_)<;>(exact ptw hd7)));(focus ((refine pop ?_;(first|refine ZaX ?_|refine pk6 ?_))<;>(exact ptm hd8)))))))));(case main=>((refine pq1 11 ?_;(focus ((refine pop ?_;(first|refine ZaX ?_|refine pk6 ?_))<;>(exact ptm hd9)))))))));(case main=>((refine pq1 1 ?_;(focus ((refine pop ?_;refine pk7 ?_)<;>(exact ptw hd9)))))))));(case main=>((refine pq1 12 ?_;(focus ((refine pop ?_;refine pk20 ?_)<;>(exact ptm hd10)))))))));(case main=>(refine ZaC 13 ?_<;>(refine pq1 14 ?_;(focus ((refine pop ?_;refine pk8 ?_)<;>(exact ptm hd11)))))))));(case main=>((refine ZaI ?_;exact ZaJ))))) ?_)|(refine pdr [1] 15 (by (apply pct 15 16383 1;(focus (intro hd5;(apply pct 15 4607 5;(focus (intro hd4;(apply pct 15 8191 2;(focus (intro hd3;(apply pct 15 4351 6;(focus (intro hd2;(apply pct 15 511 6;(focus (intro hd1;(refine pt7_ 0 ?_<;>refine ZaC 1 ?_<;>refine pt7_ 2 ?_<;>refine pt0_ 3 ?_<;>refine Zbh 4 ?_<;>refine Za7 5 ?_<;>refine ZaC 6 ?_<;>refine pt7_ 7 ?_<;>(refine pq2 8 12 ?_ ?_;(focus ((refine pop ?_;(refine z9 ?_;(fail)))<;>(exact ptm hd1)));(focus ((refine pop ?_;refine pk3 ?_)<;>(exact ptm hd2)))))));(case main=>(refine pt0_ 9 ?_<;>refine Zes 10 ?_<;>refine Zes 11 ?_<;>(refine pq1 12 ?_;(focus ((refine pop ?_;refine pk3 ?_)<;>(exact ptm hd3)))))))));(case main=>((refine pq1 8 ?_;(focus ((refine pop ?_;(refine z9 ?_;(fail)))<;>(exact ptm hd4)))))))));(case main=>((refine pq1 13 ?_;(focus ((refine pop ?_;refine pk8 ?_)<;>(exact ptm hd5)))))))));(case main=>(refine pt0_ 9 ?_<;>refine Zes 10 ?_<;>refine Zes 11 ?_<;>(refine pq1 13 ?_;(focus ((refine pop ?_;refine pk8 ?_)<;>(exact ptw hd5)))))))));(case main=>(refine pt1_ 14 ?_<;>(refine ZaI ?_;exact ZaJ))))) ?_)|fail)
 (repeat refine pa ?_)
 refine pk15 ?_
 (repeat refine pa ?_)
 refine pk7 ?_
 (repeat refine pa ?_)
 refine pk0 ?_
 (repeat refine pa ?_)
 refine Zab (n:=6) ?_
 refine OpS.lit_hole rfl rfl rfl (Tryz.ti rfl) rfl (Tryz.ti rfl) rfl rfl rfl rfl rfl ?_
 (repeat refine pa ?_)
 refine z9 ?_
 refine OpS.append_hole rfl rfl rfl rfl (Tryz.ti rfl) rfl (Tryz.ti rfl) (.inr ⟨_,_,_,rfl⟩) (Tryz.ti rfl) rfl rfl rfl rfl rfl rfl rfl (by constructor<;>omega) ?_
 repeat' (first|(refine pth ?_)|((fail_if_success (with_reducible first|refine pA1 15 ?_|refine pA2 15 ?_|refine pA3 15 ?_));(first|refine pc ?_|(refine pbc ?_ ?_<;>intro hg)))|(first|refine pl ?_|(refine pbl ?_ ?_<;>intro hg))|(first|(refine z9 ?_;(refine pz3 hfs ?_))|refine po ?_)|fail)
 refine aW.ghost (Zco.close (o:=12015) (j:=48000) (s:=1) (c:=0) (i:=p.used.length) rfl rfl (by decide) (by have h:Zac Tryz.prog 27=some _:=Tryz.ti rfl;exact ZeD h) (by rw [hul];omega) (by decide) (by rw [List.length_append,hul];exact Nat.lt_succ_self _) (ZqM hul)) ?_
 dsimp only [St.upds,updl]
 repeat' (first|refine pa ?_|(refine pb ?_ ?_<;>intro hg)|refine po ?_|fail)
 exact pfg
theorem Zrc (p:Pr) (hp:Zeq p) (hd:Zc0 p) (h1:ZnB p=true) (h0:p.saves.length ≠ 0) (w:Wd) (hs:Zbn p (p.saves.getD (p.saves.length - 1) default).1=some w) (v:Pr) (hv:v=(ZpB p).getD p):advS 52 p v (ZpB p).isSome:=by
 unfold advS
 have hcp:=ZlR p hp
 dsimp only [pcR,pcF] at hcp
 have hca:=Zqo p hp
 dsimp only [pcR] at hca
 rw [h1] at hca
 obtain ⟨hpp,hu8,hmt⟩:=Zqj h1
 have hsl:(p.saves.map saveC).length=p.saves.length:=List.length_map _
 have hul:(p.used.map trackC).length=p.used.length:=List.length_map _
 have hse:=hpp.saves
 have hus:=hpp.used
 have hld:=hpp.lead
 have hah:=hpp.ahead
 have hps:=hp.saves
 have hbt:=hpp.base.tick
 have hnt:=hpp.now.tick
 have hra:=Zn8 p.tracks p.now.tick
 obtain ⟨l1,l2,l3⟩:=hp.now
 have hfs:=Zio p.now (Zpc p) p.ft p.fp p.fa l1 l2 l3 (Zqy p) rfl
 have hwn:=Zfl p.now
 rw [show (rowV p.tracks p.now.tick).1=Zpc p from rfl] at hra
 have hix:(p.saves.length:Int) - 1=((p.saves.length - 1:Nat):Int):=by omega
 have hsa:=ZiA p (p.saves.getD (p.saves.length - 1) default).1 hp hd _ rfl
 dsimp only [pcR] at hsa
 have hwb0:=Zfl p.base
 rw [Zqq h1 h0 hs] at hv ⊢
 rw [hs] at hsa
 dsimp only [Option.getD_some,Option.isSome_some,Option.map_some] at hv hsa ⊢
 have hwb:=Zfl w
 have hdt:=Zqt (Zbp w) (Zbp p.now) (by have:=ZgG (w:=p.now);omega)
 unfold Zq1 at hv
 rw [hv]
 dsimp only
 rw [List.map_append,List.map_append]
 generalize Zqy p=nw at hfs ⊢
 generalize Zpc p=rw at hfs hra ⊢
 generalize Zbp p.now=bn at hwn hdt ⊢
 generalize Zbp w=bb at hwb hdt ⊢
 refine AC.go Tryz.func52 Tryz.ntmps52 fun B W hr=>?_
 repeat' (first|(refine pth ?_)|((fail_if_success (with_reducible first|refine pA1 13 ?_|refine pA2 13 ?_|refine pA3 13 ?_));(first|refine pc ?_|(refine pbc ?_ ?_<;>intro hg)))|(first|refine pl ?_|(refine pbl ?_ ?_<;>intro hg))|(first|refine ZaX ?_|refine ZnM ?_|(refine z9 ?_;(first|refine Zaa hca ?_|refine Zaa hwn ?_|refine Zaa hwb ?_|refine Zaa hwb0 ?_|refine Zaa hdt ?_|refine pz3 hcp ?_|refine pz3 hsa ?_|refine pz3 hra ?_))|refine po ?_)|(refine pdr [1] 15 (by (apply pct 15 32767 0;(focus (intro hd11;(apply pct 15 8191 2;(focus (intro hd10;(apply pct 15 4095 3;(focus (intro hd9;(apply pct 15 4093 4;(focus (intro hd8;(apply pct 15 2047 4;(focus (intro hd7;(apply pct 15 2045 5;(focus (intro hd6;(apply pct 15 1023 5;(focus (intro hd5;(apply pct 15 1021 6;(focus (intro hd4;(apply pct 15 511 6;(focus (intro hd3;(apply pct 15 509 7;(focus (intro hd2;(apply pct 15 255 7;(focus (intro hd1;(refine ZaC 0 ?_<;>refine ZaC 2 ?_<;>refine ZaC 3 ?_<;>refine pt7_ 4 ?_<;>refine pt0_ 5 ?_<;>refine ZaC 6 ?_<;>refine pt7_ 7 ?_<;>(refine pq2 1 8 ?_ ?_;(focus ((refine pop ?_;refine pk7 ?_)<;>(exact ptm hd1)));(focus ((refine pop ?_;(refine z9 ?_;(first|refine Zaa hwn ?_|refine Zaa hwb ?_|refine Zaa hwb0 ?_)))<;>(exact ptm hd2)))))));(case main=>((refine pq1 8 ?_;(focus ((refine pop ?_;(refine z9 ?_;(first|refine Zaa hwn ?_|refine Zaa hwb ?_|refine Zaa hwb0 ?_)))<;>(exact ptm hd3)))))))));(case main=>((refine pq2 1 9 ?_ ?_;(focus ((refine pop ?_;refine pk7 ?_)<;>(exact ptw hd3)));(focus ((refine pop ?_;(refine z9 ?_;(refine Zaa hdt ?_)))<;>(exact ptm hd4)))))))));(case main=>((refine pq1 9 ?_;(focus ((refine pop ?_;(refine z9 ?_;(refine Zaa hdt ?_)))<;>(exact ptm hd5)))))))));(case main=>((refine pq2 1 10 ?_ ?_;(focus ((refine pop ?_;refine pk7 ?_)<;>(exact ptw hd5)));(focus ((refine pop ?_;refine pk5 ?_)<;>(exact ptm hd6)))))))));(case main=>((refine pq1 10 ?_;(focus ((refine pop ?_;refine pk5 ?_)<;>(exact ptm hd7)))))))));(case main=>((refine pq2 1 11 ?_ ?_;(focus ((refine pop ?_;refine pk7 ?_)<;>(exact ptw hd7)));(focus ((refine pop ?_;(first|refine ZaX ?_|refine pk6 ?_))<;>(exact ptm hd8)))))))));(case main=>((refine pq1 11 ?_;(focus ((refine pop ?_;(first|refine ZaX ?_|refine pk6 ?_))<;>(exact ptm hd9)))))))));(case main=>((refine pq1 1 ?_;(focus ((refine pop ?_;refine pk7 ?_)<;>(exact ptw hd9)))))))));(case main=>((refine pq1 12 ?_;(focus ((refine pop ?_;refine pk20 ?_)<;>(exact ptm hd10)))))))));(case main=>(refine ZaC 13 ?_<;>(refine pq1 14 ?_;(focus ((refine pop ?_;refine pk8 ?_)<;>(exact ptm hd11)))))))));(case main=>((refine ZaI ?_;exact ZaJ))))) ?_)|(refine pdr [1] 15 (by (apply pct 15 16383 1;(focus (intro hd5;(apply pct 15 4607 5;(focus (intro hd4;(apply pct 15 8191 2;(focus (intro hd3;(apply pct 15 4351 6;(focus (intro hd2;(apply pct 15 511 6;(focus (intro hd1;(refine pt7_ 0 ?_<;>refine ZaC 1 ?_<;>refine pt7_ 2 ?_<;>refine pt0_ 3 ?_<;>refine Zbh 4 ?_<;>(refine pti 5 ?_;(first|refine ZrQ ?_|refine pq17 ?_))<;>refine ZaC 6 ?_<;>refine pt7_ 7 ?_<;>(refine pq2 8 12 ?_ ?_;(focus ((refine pop ?_;(refine z9 ?_;(refine pz3 hsa ?_)))<;>(exact ptm hd1)));(focus ((refine pop ?_;refine pk3 ?_)<;>(exact ptm hd2)))))));(case main=>(refine pt0_ 9 ?_<;>refine Zes 10 ?_<;>refine Zes 11 ?_<;>(refine pq1 12 ?_;(focus ((refine pop ?_;refine pk3 ?_)<;>(exact ptm hd3)))))))));(case main=>((refine pq1 8 ?_;(focus ((refine pop ?_;(refine z9 ?_;(refine pz3 hsa ?_)))<;>(exact ptm hd4)))))))));(case main=>((refine pq1 13 ?_;(focus ((refine pop ?_;refine pk8 ?_)<;>(exact ptm hd5)))))))));(case main=>(refine pt0_ 9 ?_<;>refine Zes 10 ?_<;>refine Zes 11 ?_<;>(refine pq1 13 ?_;(focus ((refine pop ?_;refine pk8 ?_)<;>(exact ptw hd5)))))))));(case main=>(refine pt1_ 14 ?_<;>(refine ZaI ?_;exact ZaJ))))) ?_)|fail)
 (repeat refine pa ?_)
 refine pk15 ?_
 (repeat refine pa ?_)
 refine pk7 ?_
 (repeat refine pa ?_)
 refine pk0 ?_
 (repeat refine pa ?_)
 refine Zab (n:=6) ?_
 refine OpS.lit_hole rfl rfl rfl (Tryz.ti rfl) rfl (Tryz.ti rfl) rfl rfl rfl rfl rfl ?_
 (repeat refine pa ?_)
 refine z9 ?_
 refine OpS.append_hole rfl rfl rfl rfl (Tryz.ti rfl) rfl (Tryz.ti rfl) (.inr ⟨_,_,_,rfl⟩) (Tryz.ti rfl) rfl rfl rfl rfl rfl rfl rfl (by constructor<;>omega) ?_
 repeat' (first|(refine pth ?_)|((fail_if_success (with_reducible first|refine pA1 15 ?_|refine pA2 15 ?_|refine pA3 15 ?_));(first|refine pc ?_|(refine pbc ?_ ?_<;>intro hg)))|(first|refine pl ?_|(refine pbl ?_ ?_<;>intro hg))|(first|(refine z9 ?_;(refine pz3 hfs ?_))|refine po ?_)|fail)
 refine aW.ghost (Zco.close (o:=12015) (j:=48000) (s:=1) (c:=0) (i:=p.used.length) rfl rfl (by decide) (by have h:Zac Tryz.prog 27=some _:=Tryz.ti rfl;exact ZeD h) (by rw [hul];omega) (by decide) (by rw [List.length_append,hul];exact Nat.lt_succ_self _) (ZqM hul)) ?_
 dsimp only [St.upds,updl]
 repeat' (first|refine pa ?_|(refine pb ?_ ?_<;>intro hg)|refine po ?_|fail)
 exact pfg
theorem Zrf (p:Pr) (hp:Zeq p) (hd:Zc0 p) (v:Pr) (hv:v=(ZpB p).getD p):AC Tryz.prog 52 [.agg (pcR p)] (.tup [.agg (pcF v),.t (.bool (ZpB p).isSome)]):=by
 by_cases h1:ZnB p=true
 case neg=>exact Zrn p hp h1 v hv
 by_cases h0:p.saves.length=0
 ·exact ZqT p hp hd h1 h0 v hv
 ·cases hs:Zbn p (p.saves.getD (p.saves.length - 1) default).1 with
  | none=>exact Zrb p hp hd h1 h0 hs v hv
  | some w=>exact Zrc p hp hd h1 h0 w hs v hv
theorem ZrN (p:Pr) (hp:Zeq p) (hd:Zc0 p) (v:Pr) (hv:v=(Zqk p).getD p):AC Tryz.prog 53 [.agg (pcR p)] (.tup [.agg (pcF v),.t (.bool (Zqk p).isSome)]):=by
 have hpo:=Zgt p hp.tracks.1
 dsimp only [pcR] at hpo
 have hcp:=ZlR p hp
 dsimp only [pcR,pcF] at hcp
 by_cases h1:Zb9 p=true
 case neg =>
  rw [ZrD h1] at hv ⊢
  rw [Bool.not_eq_true] at h1
  rw [h1] at hpo
  dsimp only [Option.getD_none,Option.isSome_none] at hv ⊢
  subst hv
  refine AC.go Tryz.func53 Tryz.ntmps53 fun B W hr=>?_
  dsimp only [pcR,pcF]
  repeat' (first|refine pa ?_|(refine pb ?_ ?_<;>intro hg)|(refine z9 ?_;(first|refine Zaa hpo ?_|refine pz3 hcp ?_))|refine po ?_|fail)
  exact pfg
 rw [h1] at hpo
 have hfw:=ZqI p hp
 dsimp only [pcR] at hfw
 by_cases h2:ZdR p < 0
 ·rw [Zrj h1 h2] at hv ⊢
  dsimp only [Option.getD_some,Option.isSome_some] at hv ⊢
  subst hv
  refine AC.go Tryz.func53 Tryz.ntmps53 fun B W hr=>?_
  dsimp only [pcR,pcF]
  repeat' (first|refine pa ?_|(refine pb ?_ ?_<;>intro hg)|(refine z9 ?_;(first|refine Zaa hpo ?_|refine Zaa hfw ?_|refine pz3 hcp ?_))|refine po ?_|fail)
  exact pfg
 have hrt:=Zny p (ZdR p) hp hd _ rfl
 dsimp only [pcR,pcF] at hrt
 cases hr:Zcv p (ZdR p) with
 | none =>
  rw [Zq3 h1 h2 hr] at hv ⊢
  rw [hr] at hrt
  dsimp only [Option.getD_none,Option.isSome_none] at hv hrt ⊢
  subst hv
  refine AC.go Tryz.func53 Tryz.ntmps53 fun B W hr=>?_
  dsimp only [pcR,pcF]
  repeat' (first|refine pa ?_|(refine pb ?_ ?_<;>intro hg)|(refine z9 ?_;(first|refine Zaa hpo ?_|refine Zaa hfw ?_|refine pz3 hcp ?_|refine pz3 hrt ?_))|refine po ?_|fail)
  refine aW.loopF rfl (fun q:Unit=>[]) [(7,_),(5,_),(4,_),(3,_),(2,_),(1,_)] (fun q=>[]) [(1,_,_),(2,_,_),(4,_,_),(9004,_,_),(9005,_,_),(9008,_,_),(9009,_,_),(9010,_,_),(9013,_,_),(9014,_,_),(9015,_,_),(9016,_,_),(9017,_,_)] (fun q=>True) (fun q=>0) () trivial (by (exact plei)) ?_
  rintro ⟨⟩ _
  refine pln ?_
  repeat' (first|refine pa ?_|(refine pb ?_ ?_<;>intro hg)|refine po ?_|fail)
  exact pfg
 | some q0 =>
 rw [Zq2 h1 h2 hr] at hv ⊢
 rw [hr] at hrt
 dsimp only [Option.getD_some,Option.isSome_some] at hrt
 obtain ⟨r1,r2,r3,_,_⟩:=ZrE hr
 have rd:=ZrF hd hr
 have rl:=Zrk hp hr
 obtain ⟨R,hR⟩:∃ R,R=Zqm (p.now.tick - q0.now.tick).toNat p.now.tick q0:=⟨_,rfl⟩
 rw [← hR] at hv ⊢
 have hpr:0≤p.rolls∧p.rolls≤1000000:=(Zbq.1 h1).rolls
 have hpa:0≤p.again∧p.again≤1000000:=(Zbq.1 h1).again
 have hnt:=(Zbq.1 h1).now.tick
 have hfin:=Zrv (Zbq.1 h1) (by omega)
 have hbt:=(Zbq.1 h1).base.tick
 generalize hfe:ZdR p=fw at hfw hrt h2 hfin
 refine AC.go Tryz.func53 Tryz.ntmps53 fun B W hr=>?_
 dsimp only [pcR,pcF]
 repeat' (first|refine pa ?_|(refine pb ?_ ?_<;>intro hg)|(refine z9 ?_;(first|refine Zaa hpo ?_|refine Zaa hfw ?_|refine pz3 hcp ?_|refine pz3 hrt ?_))|refine po ?_|fail)
 refine aW.ghost (Zco.renameC (b:=6) (c:=4) (o:=22004) (j:=37004) (ej:=1) rfl rfl rfl rfl rfl rfl rfl rfl) ?_
 refine aW.ghost (Zco.renameC (b:=6) (c:=5) (o:=22005) (j:=37005) (ej:=1) rfl rfl rfl rfl rfl rfl rfl rfl) ?_
 refine aW.ghost (Zco.renameC (b:=6) (c:=8) (o:=22008) (j:=37008) (ej:=1) rfl rfl rfl rfl rfl rfl rfl rfl) ?_
 refine aW.ghost (Zco.renameC (b:=6) (c:=9) (o:=22009) (j:=37009) (ej:=1) rfl rfl rfl rfl rfl rfl rfl rfl) ?_
 refine aW.ghost (Zco.renameC (b:=6) (c:=10) (o:=22010) (j:=37010) (ej:=1) rfl rfl rfl rfl rfl rfl rfl rfl) ?_
 refine aW.ghost (Zco.renameC (b:=6) (c:=13) (o:=22013) (j:=37013) (ej:=1) rfl rfl rfl rfl rfl rfl rfl rfl) ?_
 refine aW.ghost (Zco.renameC (b:=6) (c:=14) (o:=22014) (j:=37014) (ej:=1) rfl rfl rfl rfl rfl rfl rfl rfl) ?_
 refine aW.ghost (Zco.renameC (b:=6) (c:=15) (o:=22015) (j:=37015) (ej:=1) rfl rfl rfl rfl rfl rfl rfl rfl) ?_
 refine aW.ghost (Zco.renameC (b:=6) (c:=16) (o:=22016) (j:=37016) (ej:=1) rfl rfl rfl rfl rfl rfl rfl rfl) ?_
 refine aW.ghost (Zco.renameC (b:=6) (c:=17) (o:=22017) (j:=37017) (ej:=1) rfl rfl rfl rfl rfl rfl rfl rfl) ?_
 dsimp only [List.set]
 refine aW.loopF rfl (fun q:Pr×Bool×Nat=>[(7,.t (.bool q.2.1))]) [(6,_),(5,_),(4,_),(2,_),(1,_)] (fun q=>[(6,1,.box 40 [.t (.int .i64 q.1.me),.t (.int .i64 q.1.delay),.t (.int .i64 q.1.ahead),.t (.int .i64 q.1.seed),.hnd 37004 q.2.2,.hnd 37005 q.2.2,.t (.int .i64 q.1.base.tick),.t (.int .i64 q.1.base.seed),.hnd 37008 q.2.2,.hnd 37009 q.2.2,.hnd 37010 q.2.2,.t (.int .i64 q.1.now.tick),.t (.int .i64 q.1.now.seed),.hnd 37013 q.2.2,.hnd 37014 q.2.2,.hnd 37015 q.2.2,.hnd 37016 q.2.2,.hnd 37017 q.2.2,.t (.int .i64 q.1.ft),.t (.int .i64 q.1.fp),.t (.int .i64 q.1.fa),.t (.int .i64 q.1.rolls),.t (.int .i64 q.1.again)]),(37004,q.2.2,.row false true 46 (q.1.tracks.map trackC)),(37005,q.2.2,.row true true 9 (Zai q.1.base.level)),(37008,q.2.2,.row true true 3 (Zak q.1.base.scores)),(37009,q.2.2,.row true true 114 (q.1.base.bodies.map bodyC)),(37010,q.2.2,.row true true 9 (Zai q.1.now.level)),(37013,q.2.2,.row true true 3 (Zak q.1.now.scores)),(37014,q.2.2,.row true true 114 (q.1.now.bodies.map bodyC)),(37015,q.2.2,.row false true 27 (q.1.used.map trackC)),(37016,q.2.2,.row true true 100 (q.1.saves.map saveC)),(37017,q.2.2,.row true true 3 (Zak q.1.sums))]) [(1,_,_),(2,_,_),(4,_,_),(9004,_,_),(9005,_,_),(9008,_,_),(9009,_,_),(9010,_,_),(9013,_,_),(9014,_,_),(9015,_,_),(9016,_,_),(9017,_,_)] (fun q=>Zeq q.1∧Zc0 q.1∧((q.2.1=true∧R=Zqm (p.now.tick - q.1.now.tick).toNat p.now.tick q.1∧q.1.rolls=p.rolls∧q.1.again=p.again)∨(q.2.1=false∧R=none))) (fun q=>(bif q.2.1 then (p.now.tick - q.1.now.tick).toNat + 1 else 0)) (q0,true,1) ⟨rl,rd,.inl ⟨rfl,hR,r2,r3⟩⟩ (by (exact plei)) ?_
 rintro ⟨q,b,ep⟩ hI
 obtain ⟨hql,hqd,hq⟩:Zeq q∧Zc0 q∧((b=true∧R=Zqm (p.now.tick - q.now.tick).toNat p.now.tick q∧q.rolls=p.rolls∧q.again=p.again)∨(b=false∧R=none)):=hI
 rcases hq with ⟨hb,hq,hr1,hr2⟩|⟨hb,hq⟩
 ·subst hb
  refine pln ?_
  have had:=Zrf q hql hqd _ rfl
  dsimp only [pcR,pcF] at had
  by_cases hlt:q.now.tick < p.now.tick
  ·cases ha:ZpB q with
   | none =>
    rw [Zrq hlt ha] at hq
    rw [ha] at had
    dsimp only [Option.getD_none,Option.isSome_none] at had
    repeat' (first|refine pa ?_|(refine pb ?_ ?_<;>intro hg)|(refine z9 ?_;(refine pz3 had ?_))|refine po ?_|fail)
    exact ⟨(q,false,ep + 1),⟨hql,hqd,.inr ⟨rfl,hq⟩⟩,Nat.zero_lt_succ _,by (exact ple)⟩
   | some r =>
    obtain ⟨_,hrt2,_,_,_,_,hr3,hr4⟩:=Zqr ha
    rw [Zrr hlt ha] at hq
    rw [ha] at had
    dsimp only [Option.getD_some,Option.isSome_some] at had
    repeat' (first|refine pa ?_|(refine pb ?_ ?_<;>intro hg)|(refine z9 ?_;(refine pz3 had ?_))|refine po ?_|fail)
    exact ⟨(r,true,ep + 1),⟨ZqY hql ha,ZqX hqd ha,.inl ⟨rfl,hq,hr3.trans hr1,hr4.trans hr2⟩⟩,by show (p.now.tick - r.now.tick).toNat + 1 < (p.now.tick - q.now.tick).toNat + 1;omega,by (exact ple)⟩
  ·rw [Zrp hlt] at hq
   subst hq
   dsimp only [Option.map_some,Option.getD_some,Option.isSome_some] at hv ⊢
   unfold ZpG at hv
   rw [hfe] at hv
   rw [show p.again + (p.now.tick - fw)=q.again + p.now.tick - fw by omega,show p.rolls + 1=q.rolls + 1 by omega] at hv
   subst hv
   repeat' (first|refine pa ?_|(refine pb ?_ ?_<;>intro hg)|refine po ?_|fail)
   exact pfg
 ·subst hb
  subst hq
  dsimp only [Option.map_none,Option.getD_none,Option.isSome_none] at hv ⊢
  subst hv
  refine pln ?_
  repeat' (first|refine pa ?_|(refine pb ?_ ?_<;>intro hg)|refine po ?_|fail)
  exact pfg
end Go.Proofs.YthfaongbpdnlnaaGreat
