/- What is proved: contracts on repairing what was wrong, program and reference alike.
   Conditions: the peer's lists and differences can be walked. -/
import Derived.Test.YthfaongbpdnlnaaGreatT96ub
namespace Go.Proofs.YthfaongbpdnlnaaGreat
set_option maxHeartbeats 4000000
set_option maxRecDepth 20000
set_option linter.unusedSimpArgs false
set_option linter.unusedVariables false
open Go.RowKit Ab
theorem Znq (p:Pr) (t:Int) (hp:Zeq p) (hd:Zc0 p) (v:Pr) (hv:v=(Zcv p t).getD p):AC Tryz.prog 39 [.agg [.t (.int .i64 p.me),.t (.int .i64 p.delay),.t (.int .i64 p.ahead),.t (.int .i64 p.seed),.t (.lst false 46 (p.tracks.map trackC)),.t (.lst true 9 (Zai p.base.level)),.t (.int .i64 p.base.tick),.t (.int .i64 p.base.seed),.t (ints 3 p.base.scores),.t (.lst true 114 (p.base.bodies.map bodyC)),.t (.lst true 9 (Zai p.now.level)),.t (.int .i64 p.now.tick),.t (.int .i64 p.now.seed),.t (ints 3 p.now.scores),.t (.lst true 114 (p.now.bodies.map bodyC)),.t (.lst false 27 (p.used.map trackC)),.t (.lst true 100 (p.saves.map saveC)),.t (ints 3 p.sums),.t (.int .i64 p.ft),.t (.int .i64 p.fp),.t (.int .i64 p.fa),.t (.int .i64 p.rolls),.t (.int .i64 p.again)],.t (.int .i64 t)] (.tup [.agg [.t (.int .i64 v.me),.t (.int .i64 v.delay),.t (.int .i64 v.ahead),.t (.int .i64 v.seed),.fr false 46 (v.tracks.map trackC),.fr true 9 (Zai v.base.level),.t (.int .i64 v.base.tick),.t (.int .i64 v.base.seed),.fr true 3 (Zak v.base.scores),.fr true 114 (v.base.bodies.map bodyC),.fr true 9 (Zai v.now.level),.t (.int .i64 v.now.tick),.t (.int .i64 v.now.seed),.fr true 3 (Zak v.now.scores),.fr true 114 (v.now.bodies.map bodyC),.fr false 27 (v.used.map trackC),.fr true 100 (v.saves.map saveC),.fr true 3 (Zak v.sums),.t (.int .i64 v.ft),.t (.int .i64 v.fp),.t (.int .i64 v.fa),.t (.int .i64 v.rolls),.t (.int .i64 v.again)],.t (.bool (Zcv p t).isSome)]):=by
 have hcp:=ZjY p hp
 have hsa:=Ziy p t hp hd _ rfl
 cases hs:Zbn p t with
 | none =>
  rw [hs] at hsa
  rw [ZoU hs] at hv ⊢
  dsimp only [Option.getD_none,Option.isSome_none] at hv hsa ⊢
  subst hv
  refine AC.go Tryz.func39 Tryz.ntmps39 fun B W hr=>?_
  repeat' (first|refine pa ?_|(refine pb ?_ ?_<;>intro hg)|(refine Zab (n:=20) ?_;(first|refine pz3 hcp ?_|refine pz3 hsa ?_))|refine po ?_|fail)
  exact pfg
 | some w =>
  obtain ⟨⟨h1,h2,h3⟩,hw,hl,ht,hn⟩:=Zgc hs
  have hq:=Zme hs
  have hpp:=Zbq.1 h1
  have hu:=hpp.used
  have hsv:=hpp.saves
  have hbt:=hpp.base.tick
  have hpv:=hp.saves
  have hpu:=hp.used.1
  rw [hs] at hsa
  rw [Zm0 hs] at hv ⊢
  dsimp only [Option.getD_some,Option.isSome_some] at hv hsa ⊢
  obtain ⟨k,hk⟩:=Int.eq_ofNat_of_zero_le (show 0≤t - p.base.tick by omega)
  have hkt:t=p.base.tick + k:=by omega
  have hks:k < p.saves.length:=by omega
  have hku:k < p.used.length:=by omega
  unfold ZhB at hv
  rw [hk,Int.toNat_natCast] at hv
  have hpo:=Zgp v (by rw [hv];exact hp.tracks.1)
  rw [show Zb9 v=true by rw [hv];unfold ZhB at hq;rw [hk,Int.toNat_natCast] at hq;exact Zbq.2 hq] at hpo
  rw [hv] at hpo ⊢
  dsimp only at hpo ⊢
  have e1:List.take ((t - p.base.tick).toNat - (0:Int).toNat) (List.drop (0:Int).toNat p.saves)=p.saves.take k:=by rw [hk];rfl
  have e2:List.take ((t - p.base.tick).toNat - (0:Int).toNat) (List.drop (0:Int).toNat p.used)=p.used.take k:=by rw [hk];rfl
  have hsl:(p.saves.map saveC).length=p.saves.length:=List.length_map _
  have hul:(p.used.map trackC).length=p.used.length:=List.length_map _
  rw [← e1,← e2] at hpo ⊢
  refine AC.go Tryz.func39 Tryz.ntmps39 fun B W hr=>?_
  repeat' (first|refine pa ?_|(refine pb ?_ ?_<;>intro hg)|refine ZkW ?_|(refine Zab (n:=20) ?_;(first|refine Zaa hpo ?_|refine pz3 hcp ?_|refine pz3 hsa ?_))|refine po ?_|fail)
  exact pfg
theorem Zrm (p:Pr) (hp:Zeq p) (h1:¬ ZnB p=true) (v:Pr) (hv:v=(ZpB p).getD p):advS 19 p v (ZpB p).isSome:=by
 unfold advS
 have hcp:=ZjY p hp
 have hca:=Zqn p hp
 rw [Zro h1] at hv ⊢
 rw [Bool.not_eq_true] at h1
 rw [h1] at hca
 dsimp only [Option.getD_none,Option.isSome_none] at hv ⊢
 subst hv
 refine AC.go Tryz.func19 Tryz.ntmps19 fun B W hr=>?_
 repeat' (first|refine pa ?_|(refine pb ?_ ?_<;>intro hg)|(refine Zab (n:=20) ?_;(first|refine Zaa hca ?_|refine pz3 hcp ?_))|refine po ?_|fail)
 exact pfg
theorem Zq9 (p:Pr) (hp:Zeq p) (hd:Zc0 p) (h1:ZnB p=true) (h0:p.saves.length ≠ 0) (hs:Zbn p (p.saves.getD (p.saves.length - 1) default).1=none) (v:Pr) (hv:v=(ZpB p).getD p):advS 19 p v (ZpB p).isSome:=by
 unfold advS
 have hcp:=ZjY p hp
 have hca:=Zqn p hp
 rw [h1] at hca
 obtain ⟨hpp,hu8,hmt⟩:=Zqj h1
 have hsl:(p.saves.map saveC).length=p.saves.length:=List.length_map _
 have hul:(p.used.map trackC).length=p.used.length:=List.length_map _
 have hse:=hpp.saves
 have hus:=hpp.used
 have hld:=hpp.lead
 have hah:=hpp.ahead
 have hps:=hp.saves
 have hbt:=hpp.base.tick
 have hnt:=hpp.now.tick
 have hix:(p.saves.length:Int) - 1=((p.saves.length - 1:Nat):Int):=by omega
 have hsa:=Ziy p (p.saves.getD (p.saves.length - 1) default).1 hp hd _ rfl
 rw [Zqq h1 h0 hs] at hv ⊢
 rw [hs] at hsa
 dsimp only [Option.getD_none,Option.isSome_none,Option.map_none] at hv hsa ⊢
 have hwb:=Zii p.base
 subst hv
 refine AC.go Tryz.func19 Tryz.ntmps19 fun B W hr=>?_
 repeat' (first|refine pa ?_|(refine pb ?_ ?_<;>intro hg)|refine ZnM ?_|(refine Zab (n:=20) ?_;(first|refine Zaa hca ?_|refine Zaa hwb ?_|refine pz3 hcp ?_|refine pz3 hsa ?_))|refine po ?_|((apply pdq 7;(focus exact pdp);(focus ((apply pct 7 63 1;(focus (intro hd3;(apply pct 7 31 2;(focus (intro hd2;(apply pct 7 15 3;(focus (intro hd1;(refine pt7_ 0 ?_<;>refine ZaC 2 ?_<;>refine pt7_ 3 ?_<;>(refine pq1 1 ?_;(focus ((refine pop ?_;(refine Zab (n:=20) ?_;(first|refine Zaa hwb ?_)))<;>(exact ptm hd1)))))));(case main=>((refine pq1 4 ?_;(focus ((refine pop ?_;(refine Zab (n:=20) ?_;(first|refine Zaa hwb ?_)))<;>(exact ptm hd2)))))))));(case main=>((refine pq1 5 ?_;(focus ((refine pop ?_;(refine Zab (n:=20) ?_;(first|fail)))<;>(exact ptm hd3)))))))));(case main=>(refine pt1_ 6 ?_<;>(refine ZaI ?_;exact ZaJ))))))))|(refine pdr [1] 17 (by (apply pct 17 65535 1;(focus (intro hd5;(apply pct 17 18431 5;(focus (intro hd4;(apply pct 17 32767 2;(focus (intro hd3;(apply pct 17 17407 6;(focus (intro hd2;(apply pct 17 2047 6;(focus (intro hd1;(refine pt7_ 0 ?_<;>refine ZaC 1 ?_<;>refine pt7_ 2 ?_<;>refine ZaC 3 ?_<;>refine pt7_ 4 ?_<;>refine Ziv 5 ?_<;>refine Zbh 6 ?_<;>(refine pti 7 ?_;(first|refine ZrQ ?_|refine pq17 ?_))<;>refine ZaC 8 ?_<;>refine pt7_ 9 ?_<;>(refine pq2 10 14 ?_ ?_;(focus ((refine pop ?_;(refine Zab (n:=20) ?_;(first|refine pz3 hsa ?_)))<;>(exact ptm hd1)));(focus ((refine pop ?_;refine pk3 ?_)<;>(exact ptm hd2)))))));(case main=>(refine pt0_ 11 ?_<;>refine Zes 12 ?_<;>refine Zes 13 ?_<;>(refine pq1 14 ?_;(focus ((refine pop ?_;refine pk3 ?_)<;>(exact ptm hd3)))))))));(case main=>((refine pq1 10 ?_;(focus ((refine pop ?_;(refine Zab (n:=20) ?_;(first|refine pz3 hsa ?_)))<;>(exact ptm hd4)))))))));(case main=>((refine pq1 15 ?_;(focus ((refine pop ?_;refine pk8 ?_)<;>(exact ptm hd5)))))))));(case main=>(refine pt0_ 11 ?_<;>refine Zes 12 ?_<;>refine Zes 13 ?_<;>(refine pq1 15 ?_;(focus ((refine pop ?_;refine pk8 ?_)<;>(exact ptw hd5)))))))));(case main=>(refine pt1_ 16 ?_<;>(refine ZaI ?_;exact ZaJ))))) ?_)|fail)
 exact pfg
theorem Zra (p:Pr) (hp:Zeq p) (hd:Zc0 p) (h1:ZnB p=true) (h0:p.saves.length ≠ 0) (w:Wd) (hs:Zbn p (p.saves.getD (p.saves.length - 1) default).1=some w) (v:Pr) (hv:v=(ZpB p).getD p):advS 19 p v (ZpB p).isSome:=by
 unfold advS
 have hcp:=ZjY p hp
 have hca:=Zqn p hp
 rw [h1] at hca
 obtain ⟨hpp,hu8,hmt⟩:=Zqj h1
 have hsl:(p.saves.map saveC).length=p.saves.length:=List.length_map _
 have hul:(p.used.map trackC).length=p.used.length:=List.length_map _
 have hse:=hpp.saves
 have hus:=hpp.used
 have hld:=hpp.lead
 have hah:=hpp.ahead
 have hps:=hp.saves
 have hbt:=hpp.base.tick
 have hnt:=hpp.now.tick
 have hra:=ZjX p.tracks p.now.tick
 obtain ⟨l1,l2,l3⟩:=hp.now
 have hfs:=Zif p.now (Zpc p) p.ft p.fp p.fa l1 l2 l3 (Zqy p) rfl
 have hwn:=Zii p.now
 rw [show (rowV p.tracks p.now.tick).1=Zpc p from rfl] at hra
 have hix:(p.saves.length:Int) - 1=((p.saves.length - 1:Nat):Int):=by omega
 have hsa:=Ziy p (p.saves.getD (p.saves.length - 1) default).1 hp hd _ rfl
 have hwb0:=Zii p.base
 rw [Zqq h1 h0 hs] at hv ⊢
 rw [hs] at hsa
 dsimp only [Option.getD_some,Option.isSome_some,Option.map_some] at hv hsa ⊢
 have hwb:=Zii w
 have hdt:=Zqs (Zbp w) (Zbp p.now) (by have:=ZgG (w:=p.now);omega)
 unfold Zq1 at hv
 rw [hv]
 dsimp only
 rw [List.map_append,List.map_append]
 generalize Zqy p=nw at hfs ⊢
 generalize Zpc p=rw at hfs hra ⊢
 generalize Zbp p.now=bn at hwn hdt ⊢
 generalize Zbp w=bb at hwb hdt ⊢
 refine AC.go Tryz.func19 Tryz.ntmps19 fun B W hr=>?_
 repeat' (first|(refine pth ?_)|((fail_if_success (with_reducible show aW _ _ _ (Code.seq (Code.seq (Code.region 13 _ _) _) _) _ _));(fail_if_success (with_reducible show aW _ _ _ (Code.seq (Code.region 13 _ _) _) _ _));(fail_if_success (with_reducible show aW _ _ _ (Code.region 13 _ _) _ _));(first|refine pc ?_|(refine pbc ?_ ?_<;>intro hg)))|(first|refine pl ?_|(refine pbl ?_ ?_<;>intro hg))|(first|refine ZaX ?_|refine ZnM ?_|(refine Zab (n:=20) ?_;(first|refine Zaa hca ?_|refine Zaa hwn ?_|refine Zaa hwb ?_|refine Zaa hwb0 ?_|refine Zaa hdt ?_|refine pz3 hcp ?_|refine pz3 hsa ?_|refine pz3 hra ?_))|refine po ?_)|((apply pdq 7;(focus exact pdp);(focus ((apply pct 7 63 1;(focus (intro hd3;(apply pct 7 31 2;(focus (intro hd2;(apply pct 7 15 3;(focus (intro hd1;(refine pt7_ 0 ?_<;>refine ZaC 2 ?_<;>refine pt7_ 3 ?_<;>(refine pq1 1 ?_;(focus ((refine pop ?_;(refine Zab (n:=20) ?_;(first|refine Zaa hwn ?_|refine Zaa hwb ?_|refine Zaa hwb0 ?_)))<;>(exact ptm hd1)))))));(case main=>((refine pq1 4 ?_;(focus ((refine pop ?_;(refine Zab (n:=20) ?_;(first|refine Zaa hwn ?_|refine Zaa hwb ?_|refine Zaa hwb0 ?_)))<;>(exact ptm hd2)))))))));(case main=>((refine pq1 5 ?_;(focus ((refine pop ?_;(refine Zab (n:=20) ?_;(first|refine Zaa hdt ?_)))<;>(exact ptm hd3)))))))));(case main=>(refine pt1_ 6 ?_<;>(refine ZaI ?_;exact ZaJ))))))))|(refine pdr [1] 17 (by (apply pct 17 65535 1;(focus (intro hd5;(apply pct 17 18431 5;(focus (intro hd4;(apply pct 17 32767 2;(focus (intro hd3;(apply pct 17 17407 6;(focus (intro hd2;(apply pct 17 2047 6;(focus (intro hd1;(refine pt7_ 0 ?_<;>refine ZaC 1 ?_<;>refine pt7_ 2 ?_<;>refine ZaC 3 ?_<;>refine pt7_ 4 ?_<;>refine Ziv 5 ?_<;>refine Zbh 6 ?_<;>(refine pti 7 ?_;(first|refine ZrQ ?_|refine pq17 ?_))<;>refine ZaC 8 ?_<;>refine pt7_ 9 ?_<;>(refine pq2 10 14 ?_ ?_;(focus ((refine pop ?_;(refine Zab (n:=20) ?_;(first|refine pz3 hsa ?_)))<;>(exact ptm hd1)));(focus ((refine pop ?_;refine pk3 ?_)<;>(exact ptm hd2)))))));(case main=>(refine pt0_ 11 ?_<;>refine Zes 12 ?_<;>refine Zes 13 ?_<;>(refine pq1 14 ?_;(focus ((refine pop ?_;refine pk3 ?_)<;>(exact ptm hd3)))))))));(case main=>((refine pq1 10 ?_;(focus ((refine pop ?_;(refine Zab (n:=20) ?_;(first|refine pz3 hsa ?_)))<;>(exact ptm hd4)))))))));(case main=>((refine pq1 15 ?_;(focus ((refine pop ?_;refine pk8 ?_)<;>(exact ptm hd5)))))))));(case main=>(refine pt0_ 11 ?_<;>refine Zes 12 ?_<;>refine Zes 13 ?_<;>(refine pq1 15 ?_;(focus ((refine pop ?_;refine pk8 ?_)<;>(exact ptw hd5)))))))));(case main=>(refine pt1_ 16 ?_<;>(refine ZaI ?_;exact ZaJ))))) ?_)|fail)
 (repeat refine pa ?_)
 refine pk15 ?_
 (repeat refine pa ?_)
 refine pk7 ?_
 (repeat refine pa ?_)
 refine pk0 ?_
 (repeat refine pa ?_)
 refine Zab (n:=6) ?_
 refine OpS.lit_hole rfl rfl rfl (Tryz.ti rfl) rfl (Tryz.ti rfl) rfl rfl rfl rfl rfl ?_
 (repeat refine pa ?_)
 refine Zab (n:=20) ?_
 refine OpS.append_hole rfl rfl rfl rfl (Tryz.ti rfl) rfl (Tryz.ti rfl) (.inr ⟨_,_,_,rfl⟩) (Tryz.ti rfl) rfl rfl rfl rfl rfl rfl rfl (by constructor<;>omega) ?_
 repeat' (first|(refine pth ?_)|((fail_if_success (with_reducible show aW _ _ _ (Code.seq (Code.seq (Code.region 15 _ _) _) _) _ _));(fail_if_success (with_reducible show aW _ _ _ (Code.seq (Code.region 15 _ _) _) _ _));(fail_if_success (with_reducible show aW _ _ _ (Code.region 15 _ _) _ _));(first|refine pc ?_|(refine pbc ?_ ?_<;>intro hg)))|(first|refine pl ?_|(refine pbl ?_ ?_<;>intro hg))|(first|(refine Zab (n:=20) ?_;(first|refine pz3 hfs ?_))|refine po ?_)|fail)
 refine aW.ghost (Zco.close (o:=12015) (j:=47000) (s:=1) (c:=0) (i:=p.used.length) rfl rfl (by decide) (by have h:Zac Tryz.prog 27=some _:=Tryz.ti rfl;exact ZeD h) (by rw [hul];omega) (by decide) (by rw [List.length_append,hul];exact Nat.lt_succ_self _) (ZqM hul)) ?_
 dsimp only [St.upds,updl]
 repeat' (first|refine pa ?_|(refine pb ?_ ?_<;>intro hg)|refine po ?_|fail)
 exact pfg
theorem Zre (p:Pr) (hp:Zeq p) (hd:Zc0 p) (v:Pr) (hv:v=(ZpB p).getD p):AC Tryz.prog 19 [.agg [.t (.int .i64 p.me),.t (.int .i64 p.delay),.t (.int .i64 p.ahead),.t (.int .i64 p.seed),.t (.lst false 46 (p.tracks.map trackC)),.t (.lst true 9 (Zai p.base.level)),.t (.int .i64 p.base.tick),.t (.int .i64 p.base.seed),.t (ints 3 p.base.scores),.t (.lst true 114 (p.base.bodies.map bodyC)),.t (.lst true 9 (Zai p.now.level)),.t (.int .i64 p.now.tick),.t (.int .i64 p.now.seed),.t (ints 3 p.now.scores),.t (.lst true 114 (p.now.bodies.map bodyC)),.t (.lst false 27 (p.used.map trackC)),.t (.lst true 100 (p.saves.map saveC)),.t (ints 3 p.sums),.t (.int .i64 p.ft),.t (.int .i64 p.fp),.t (.int .i64 p.fa),.t (.int .i64 p.rolls),.t (.int .i64 p.again)]] (.tup [.agg [.t (.int .i64 v.me),.t (.int .i64 v.delay),.t (.int .i64 v.ahead),.t (.int .i64 v.seed),.fr false 46 (v.tracks.map trackC),.fr true 9 (Zai v.base.level),.t (.int .i64 v.base.tick),.t (.int .i64 v.base.seed),.fr true 3 (Zak v.base.scores),.fr true 114 (v.base.bodies.map bodyC),.fr true 9 (Zai v.now.level),.t (.int .i64 v.now.tick),.t (.int .i64 v.now.seed),.fr true 3 (Zak v.now.scores),.fr true 114 (v.now.bodies.map bodyC),.fr false 27 (v.used.map trackC),.fr true 100 (v.saves.map saveC),.fr true 3 (Zak v.sums),.t (.int .i64 v.ft),.t (.int .i64 v.fp),.t (.int .i64 v.fa),.t (.int .i64 v.rolls),.t (.int .i64 v.again)],.t (.bool (ZpB p).isSome)]):=by
 by_cases h1:ZnB p=true
 case neg=>exact Zrm p hp h1 v hv
 by_cases h0:p.saves.length=0
 ·exact ZqR p hp hd h1 h0 v hv
 ·cases hs:Zbn p (p.saves.getD (p.saves.length - 1) default).1 with
  | none=>exact Zq9 p hp hd h1 h0 hs v hv
  | some w=>exact Zra p hp hd h1 h0 w hs v hv
theorem ZrM (p:Pr) (hp:Zeq p) (hd:Zc0 p) (v:Pr) (hv:v=(Zqk p).getD p):AC Tryz.prog 49 [.agg [.t (.int .i64 p.me),.t (.int .i64 p.delay),.t (.int .i64 p.ahead),.t (.int .i64 p.seed),.t (.lst false 46 (p.tracks.map trackC)),.t (.lst true 9 (Zai p.base.level)),.t (.int .i64 p.base.tick),.t (.int .i64 p.base.seed),.t (ints 3 p.base.scores),.t (.lst true 114 (p.base.bodies.map bodyC)),.t (.lst true 9 (Zai p.now.level)),.t (.int .i64 p.now.tick),.t (.int .i64 p.now.seed),.t (ints 3 p.now.scores),.t (.lst true 114 (p.now.bodies.map bodyC)),.t (.lst false 27 (p.used.map trackC)),.t (.lst true 100 (p.saves.map saveC)),.t (ints 3 p.sums),.t (.int .i64 p.ft),.t (.int .i64 p.fp),.t (.int .i64 p.fa),.t (.int .i64 p.rolls),.t (.int .i64 p.again)]] (.tup [.agg [.t (.int .i64 v.me),.t (.int .i64 v.delay),.t (.int .i64 v.ahead),.t (.int .i64 v.seed),.fr false 46 (v.tracks.map trackC),.fr true 9 (Zai v.base.level),.t (.int .i64 v.base.tick),.t (.int .i64 v.base.seed),.fr true 3 (Zak v.base.scores),.fr true 114 (v.base.bodies.map bodyC),.fr true 9 (Zai v.now.level),.t (.int .i64 v.now.tick),.t (.int .i64 v.now.seed),.fr true 3 (Zak v.now.scores),.fr true 114 (v.now.bodies.map bodyC),.fr false 27 (v.used.map trackC),.fr true 100 (v.saves.map saveC),.fr true 3 (Zak v.sums),.t (.int .i64 v.ft),.t (.int .i64 v.fp),.t (.int .i64 v.fa),.t (.int .i64 v.rolls),.t (.int .i64 v.again)],.t (.bool (Zqk p).isSome)]):=by
 have hpo:=Zgp p hp.tracks.1
 have hcp:=ZjY p hp
 by_cases h1:Zb9 p=true
 case neg =>
  rw [ZrD h1] at hv ⊢
  rw [Bool.not_eq_true] at h1
  rw [h1] at hpo
  dsimp only [Option.getD_none,Option.isSome_none] at hv ⊢
  subst hv
  refine AC.go Tryz.func49 Tryz.ntmps49 fun B W hr=>?_
  repeat' (first|refine pa ?_|(refine pb ?_ ?_<;>intro hg)|(refine Zab (n:=20) ?_;(first|refine Zaa hpo ?_|refine pz3 hcp ?_))|refine po ?_|fail)
  exact pfg
 rw [h1] at hpo
 have hfw:=ZqH p hp
 by_cases h2:ZdR p < 0
 ·rw [Zrj h1 h2] at hv ⊢
  dsimp only [Option.getD_some,Option.isSome_some] at hv ⊢
  subst hv
  refine AC.go Tryz.func49 Tryz.ntmps49 fun B W hr=>?_
  repeat' (first|refine pa ?_|(refine pb ?_ ?_<;>intro hg)|(refine Zab (n:=20) ?_;(first|refine Zaa hpo ?_|refine Zaa hfw ?_|refine pz3 hcp ?_))|refine po ?_|fail)
  exact pfg
 have hrt:=Znq p (ZdR p) hp hd _ rfl
 cases hr:Zcv p (ZdR p) with
 | none =>
  rw [Zq3 h1 h2 hr] at hv ⊢
  rw [hr] at hrt
  dsimp only [Option.getD_none,Option.isSome_none] at hv hrt ⊢
  subst hv
  refine AC.go Tryz.func49 Tryz.ntmps49 fun B W hr=>?_
  repeat' (first|refine pa ?_|(refine pb ?_ ?_<;>intro hg)|(refine Zab (n:=20) ?_;(first|refine Zaa hpo ?_|refine Zaa hfw ?_|refine pz3 hcp ?_|refine pz3 hrt ?_))|refine po ?_|fail)
  exact pfg
 | some q0 =>
 rw [Zq2 h1 h2 hr] at hv ⊢
 rw [hr] at hrt
 dsimp only [Option.getD_some,Option.isSome_some] at hrt
 obtain ⟨r1,r2,r3,_,_⟩:=ZrE hr
 have rd:=ZrF hd hr
 have rl:=Zrk hp hr
 obtain ⟨R,hR⟩:∃ R,R=Zqm (p.now.tick - q0.now.tick).toNat p.now.tick q0:=⟨_,rfl⟩
 rw [← hR] at hv ⊢
 have hpr:0≤p.rolls∧p.rolls≤1000000:=(Zbq.1 h1).rolls
 have hpa:0≤p.again∧p.again≤1000000:=(Zbq.1 h1).again
 have hnt:=(Zbq.1 h1).now.tick
 have hfin:=Zrv (Zbq.1 h1) (by omega)
 have hbt:=(Zbq.1 h1).base.tick
 generalize hfe:ZdR p=fw at hfw hrt h2 hfin
 refine AC.go Tryz.func49 Tryz.ntmps49 fun B W hr=>?_
 repeat' (first|refine pa ?_|(refine pb ?_ ?_<;>intro hg)|(refine Zab (n:=20) ?_;(first|refine Zaa hpo ?_|refine Zaa hfw ?_|refine pz3 hcp ?_|refine pz3 hrt ?_))|refine po ?_|fail)
 refine aW.ghost (Zco.renameC (b:=4) (c:=4) (o:=24004) (j:=45004) (ej:=1) rfl rfl rfl rfl rfl rfl rfl rfl) ?_
 refine aW.ghost (Zco.renameC (b:=4) (c:=5) (o:=24005) (j:=45005) (ej:=1) rfl rfl rfl rfl rfl rfl rfl rfl) ?_
 refine aW.ghost (Zco.renameC (b:=4) (c:=8) (o:=24008) (j:=45008) (ej:=1) rfl rfl rfl rfl rfl rfl rfl rfl) ?_
 refine aW.ghost (Zco.renameC (b:=4) (c:=9) (o:=24009) (j:=45009) (ej:=1) rfl rfl rfl rfl rfl rfl rfl rfl) ?_
 refine aW.ghost (Zco.renameC (b:=4) (c:=10) (o:=24010) (j:=45010) (ej:=1) rfl rfl rfl rfl rfl rfl rfl rfl) ?_
 refine aW.ghost (Zco.renameC (b:=4) (c:=13) (o:=24013) (j:=45013) (ej:=1) rfl rfl rfl rfl rfl rfl rfl rfl) ?_
 refine aW.ghost (Zco.renameC (b:=4) (c:=14) (o:=24014) (j:=45014) (ej:=1) rfl rfl rfl rfl rfl rfl rfl rfl) ?_
 refine aW.ghost (Zco.renameC (b:=4) (c:=15) (o:=24015) (j:=45015) (ej:=1) rfl rfl rfl rfl rfl rfl rfl rfl) ?_
 refine aW.ghost (Zco.renameC (b:=4) (c:=16) (o:=24016) (j:=45016) (ej:=1) rfl rfl rfl rfl rfl rfl rfl rfl) ?_
 refine aW.ghost (Zco.renameC (b:=4) (c:=17) (o:=24017) (j:=45017) (ej:=1) rfl rfl rfl rfl rfl rfl rfl rfl) ?_
 dsimp only [List.set]
 refine aW.loopF rfl (fun q:Pr×Nat=>[]) [(7,_),(5,_),(4,_),(2,_),(1,_)] (fun q=>[(4,1,.box 40 [.t (.int .i64 q.1.me),.t (.int .i64 q.1.delay),.t (.int .i64 q.1.ahead),.t (.int .i64 q.1.seed),.hnd 45004 q.2,.hnd 45005 q.2,.t (.int .i64 q.1.base.tick),.t (.int .i64 q.1.base.seed),.hnd 45008 q.2,.hnd 45009 q.2,.hnd 45010 q.2,.t (.int .i64 q.1.now.tick),.t (.int .i64 q.1.now.seed),.hnd 45013 q.2,.hnd 45014 q.2,.hnd 45015 q.2,.hnd 45016 q.2,.hnd 45017 q.2,.t (.int .i64 q.1.ft),.t (.int .i64 q.1.fp),.t (.int .i64 q.1.fa),.t (.int .i64 q.1.rolls),.t (.int .i64 q.1.again)]),(45004,q.2,.row false true 46 (q.1.tracks.map trackC)),(45005,q.2,.row true true 9 (Zai q.1.base.level)),(45008,q.2,.row true true 3 (Zak q.1.base.scores)),(45009,q.2,.row true true 114 (q.1.base.bodies.map bodyC)),(45010,q.2,.row true true 9 (Zai q.1.now.level)),(45013,q.2,.row true true 3 (Zak q.1.now.scores)),(45014,q.2,.row true true 114 (q.1.now.bodies.map bodyC)),(45015,q.2,.row false true 27 (q.1.used.map trackC)),(45016,q.2,.row true true 100 (q.1.saves.map saveC)),(45017,q.2,.row true true 3 (Zak q.1.sums))]) [(1,_,_),(2,_,_)] (fun q=>R=Zqm (p.now.tick - q.1.now.tick).toNat p.now.tick q.1∧Zeq q.1∧Zc0 q.1) (fun q=>(p.now.tick - q.1.now.tick).toNat) (q0,1) ⟨hR,rl,rd⟩ (by (exact plei)) ?_
 rintro ⟨q,ep⟩ hI
 obtain ⟨hq,hql,hqd⟩:R=Zqm (p.now.tick - q.now.tick).toNat p.now.tick q∧Zeq q∧Zc0 q:=hI
 refine pln ?_
 have had:=Zre q hql hqd _ rfl
 by_cases hlt:q.now.tick < p.now.tick
 ·cases ha:ZpB q with
  | none =>
   rw [Zrq hlt ha] at hq
   subst hq
   rw [ha] at had
   dsimp only [Option.getD_none,Option.isSome_none,Option.map_none] at hv had ⊢
   subst hv
   repeat' (first|refine pa ?_|(refine pb ?_ ?_<;>intro hg)|(refine Zab (n:=20) ?_;(first|refine pz3 had ?_|refine pz3 hcp ?_))|refine po ?_|fail)
   exact pfg
  | some r =>
   rw [Zrr hlt ha] at hq
   rw [ha] at had
   have hrt:=(Zqr ha).2.1
   dsimp only [Option.getD_some,Option.isSome_some] at had
   repeat' (first|refine pa ?_|(refine pb ?_ ?_<;>intro hg)|(refine Zab (n:=20) ?_;(first|refine pz3 had ?_))|refine po ?_|fail)
   exact ⟨(r,ep + 1),⟨hq,ZqY hql ha,ZqX hqd ha⟩,by show (p.now.tick - r.now.tick).toNat < (p.now.tick - q.now.tick).toNat;omega,by (exact ple)⟩
 ·rw [Zrp hlt] at hq
  subst hq
  dsimp only [Option.map_some,Option.getD_some,Option.isSome_some] at hv ⊢
  unfold ZpG at hv
  rw [hfe] at hv
  subst hv
  repeat' (first|refine pa ?_|(refine pb ?_ ?_<;>intro hg)|refine po ?_|fail)
  exact pfg
end Go.Proofs.YthfaongbpdnlnaaGreat
