/- What is proved: contracts on confirming what is known. Conditions: as each lemma says. -/
import Derived.Test.YthfaongbpdnlnaaGreatQPC
import Derived.Test.YthfaongbpdnlnaaGreatQT35ud
namespace Go.Proofs.YthfaongbpdnlnaaGreat
set_option maxHeartbeats 4000000
set_option maxRecDepth 20000
set_option linter.unusedSimpArgs false
set_option linter.unusedVariables false
open Go.RowKit Ab
theorem Zqx {X Y:Prop} (h:Y) (r:Hld Y→X:=by intro h;exact pdr [4] 8 (by (apply pct 8 255 0;(focus (intro hd7;(apply pct 8 63 2;(focus (intro hd6;(apply pct 8 31 3;(focus (intro hd5;(apply pct 8 29 4;(focus (intro hd4;(apply pct 8 15 4;(focus (intro hd3;(apply pct 8 13 5;(focus (intro hd2;(apply pct 8 7 5;(focus (intro hd1;(refine ZaC 0 ?_<;>refine pt7_ 2 ?_<;>(refine pq2 1 3 ?_ ?_;(focus ((refine pop ?_;refine pk7 ?_)<;>(exact ptm hd1)));(focus ((refine pop ?_;(refine z9 ?_;(refine Zaa hws ?_)))<;>(exact ptm hd2)))))));(case main=>((refine pq1 3 ?_;(focus ((refine pop ?_;(refine z9 ?_;(refine Zaa hws ?_)))<;>(exact ptm hd3)))))))));(case main=>((refine pq2 1 4 ?_ ?_;(focus ((refine pop ?_;refine pk7 ?_)<;>(exact ptw hd3)));(focus ((refine pop ?_;(first|refine ZaX ?_|refine pk6 ?_))<;>(exact ptm hd4)))))))));(case main=>((refine pq1 4 ?_;(focus ((refine pop ?_;(first|refine ZaX ?_|refine pk6 ?_))<;>(exact ptm hd5)))))))));(case main=>((refine pq1 1 ?_;(focus ((refine pop ?_;refine pk7 ?_)<;>(exact ptw hd5)))))))));(case main=>((refine pq1 5 ?_;(focus ((refine pop ?_;refine pk20 ?_)<;>(exact ptm hd6)))))))));(case main=>(refine ZaC 6 ?_<;>(refine pq1 7 ?_;(focus ((refine pop ?_;refine pk8 ?_)<;>(exact ptm hd7)))))))));(case main=>((refine ZaI ?_;exact ZaJ))))) h.out):X:=r ⟨h⟩
theorem T101d4 {X Y:Prop} (h:Y) (r:Hld Y→X:=by intro h;(apply pdq 28;(focus exact pdp);(focus (refine pt7_ 0 ?_<;>(refine pq1 1 ?_)<;>(refine pop ?_;(first|(refine z9 ?_;(refine Zaa hpo ?_))|refine pk20 ?_))<;>refine pt0_ 2 ?_<;>(first|refine ZaK 3 ?_|(refine pt2 3 ?_ ?_<;>intro hg<;>(refine ZaK 3 ?_)))<;>(first|refine ZaK 4 ?_|(refine pt2 4 ?_ ?_<;>intro hg<;>(refine ZaK 4 ?_)))<;>(first|refine pg7_ 5 ?_|(refine pt2 5 ?_ ?_<;>intro hg<;>(refine pg7_ 5 ?_)))<;>(first|refine ZaK 6 ?_|(refine pt2 6 ?_ ?_<;>intro hg<;>(refine ZaK 6 ?_)))<;>(first|refine ZaK 7 ?_|(refine pt2 7 ?_ ?_<;>intro hg<;>(refine ZaK 7 ?_)))<;>(first|refine pg7_ 8 ?_|(refine pt2 8 ?_ ?_<;>intro hg<;>(refine pg7_ 8 ?_)))<;>(first|refine ZcA 9 ?_|(refine pt2 9 ?_ ?_<;>intro hg<;>(refine ZcA 9 ?_)))<;>refine pt2_ 10 ?_<;>refine pt0_ 11 ?_<;>(first|refine ZaK 12 ?_|(refine pt2 12 ?_ ?_<;>intro hg<;>(refine ZaK 12 ?_)))<;>(first|refine ZaK 13 ?_|(refine pt2 13 ?_ ?_<;>intro hg<;>(refine ZaK 13 ?_)))<;>(first|refine pg7_ 14 ?_|(refine pt2 14 ?_ ?_<;>intro hg<;>(refine pg7_ 14 ?_)))<;>(first|refine ZaK 15 ?_|(refine pt2 15 ?_ ?_<;>intro hg<;>(refine ZaK 15 ?_)))<;>(first|refine pg7_ 16 ?_|(refine pt2 16 ?_ ?_<;>intro hg<;>(refine pg7_ 16 ?_)))<;>(refine pq1 17 ?_)<;>(first|(refine pog ?_;(first|(refine z9 ?_;(refine Zaa hpo ?_))|refine pk20 ?_))|refine pon ?_|(refine po2 ?_ ?_<;>intro hg<;>(first|(refine pog ?_;(first|(refine z9 ?_;(refine Zaa hpo ?_))|refine pk20 ?_))|refine pon ?_)))<;>(first|refine ZcA 18 ?_|(refine pt2 18 ?_ ?_<;>intro hg<;>(refine ZcA 18 ?_)))<;>refine pt2_ 19 ?_<;>refine pt0_ 20 ?_<;>(first|refine pg7_ 21 ?_|(refine pt2 21 ?_ ?_<;>intro hg<;>(refine pg7_ 21 ?_)))<;>(first|refine ZaK 23 ?_|(refine pt2 23 ?_ ?_<;>intro hg<;>(refine ZaK 23 ?_)))<;>(first|refine ZaK 24 ?_|(refine pt2 24 ?_ ?_<;>intro hg<;>(refine ZaK 24 ?_)))<;>(first|refine pg7_ 25 ?_|(refine pt2 25 ?_ ?_<;>intro hg<;>(refine pg7_ 25 ?_)))<;>(refine pq1 22 ?_)<;>(first|(refine pog ?_;(first|(refine z9 ?_;(refine Zaa hpo ?_))|refine pk20 ?_))|refine pon ?_|(refine po2 ?_ ?_<;>intro hg<;>(first|(refine pog ?_;(first|(refine z9 ?_;(refine Zaa hpo ?_))|refine pk20 ?_))|refine pon ?_)))<;>(first|refine ZcA 26 ?_|(refine pt2 26 ?_ ?_<;>intro hg<;>(refine ZcA 26 ?_)))<;>refine pt2_ 27 ?_<;>(refine ZaI ?_;exact ZaJ))));exact h.out):X:=r ⟨h⟩
theorem ZrH (p:Pr) (hp:Zeq p) (hd:Zc0 p) (v:Pr) (hv:v=confirmV p):AC Tryz.prog 47 [.agg (pcR p)] (.agg (pcF v)):=by
 have hcp:=ZlR p hp
 dsimp only [pcR,pcF] at hcp
 by_cases h1:Zb9 p=true
 case neg =>
  have hpo:=Zgt p hp.tracks.1
  dsimp only [pcR] at hpo
  rw [confirmV,if_neg h1] at hv
  rw [Bool.not_eq_true] at h1
  rw [h1] at hpo
  subst hv
  refine AC.go Tryz.func47 Tryz.ntmps47 fun B W hr=>?_
  dsimp only [pcR,pcF]
  repeat' (first|refine pa ?_|(refine pb ?_ ?_<;>intro hg)|(refine z9 ?_;(refine pz3 hcp ?_))|refine po ?_|fail)
  refine aW.loopF rfl (fun q:Unit=>[]) [(3,_),(2,_),(1,_)] (fun q=>[]) [(1,_,_),(2,_,_),(3,_,_),(8004,_,_),(8005,_,_),(8008,_,_),(8009,_,_),(8010,_,_),(8013,_,_),(8014,_,_),(8015,_,_),(8016,_,_),(8017,_,_)] (fun q=>True) (fun q=>0) () trivial (by (exact plei)) ?_
  rintro ⟨⟩ _
  refine pln ?_
  repeat' (first|refine pa ?_|(refine pb ?_ ?_<;>intro hg)|(refine z9 ?_;(refine Zaa hpo ?_))|refine po ?_|(refine T101d4 ?_)|fail)
  exact pfg
 rw [confirmV,if_pos h1] at hv
 have hpp:=Zbq.1 h1
 have hkt:=ZdD p.tracks
 have hkl:=Zg5 (ts:=p.tracks)
 obtain ⟨n1,n2,n3⟩:=hp.now
 refine AC.go Tryz.func47 Tryz.ntmps47 fun B W hr=>?_
 dsimp only [pcR,pcF]
 repeat' (first|refine pa ?_|(refine pb ?_ ?_<;>intro hg)|(refine z9 ?_;(refine pz3 hcp ?_))|refine po ?_|fail)
 refine aW.ghost (Zco.renameC (b:=3) (c:=5) (o:=8005) (j:=55000) (ej:=1) rfl rfl rfl rfl rfl rfl rfl rfl) ?_
 refine aW.ghost (Zco.renameC (b:=3) (c:=8) (o:=8008) (j:=55003) (ej:=1) rfl rfl rfl rfl rfl rfl rfl rfl) ?_
 refine aW.ghost (Zco.renameC (b:=3) (c:=9) (o:=8009) (j:=55004) (ej:=1) rfl rfl rfl rfl rfl rfl rfl rfl) ?_
 dsimp only [List.set]
 refine aW.loopF rfl (fun q:Wd×TS×List Sv×List Int×Nat×Nat×Nat×Nat=>[]) [(3,_),(2,_),(1,_)] (fun q=>[(3,1,.box 40 [.t (.int .i64 p.me),.t (.int .i64 p.delay),.t (.int .i64 p.ahead),.t (.int .i64 p.seed),.hnd 8004 1,.hnd 55000 q.2.2.2.2.1,.t (.int .i64 q.1.tick),.t (.int .i64 q.1.seed),.hnd 55003 q.2.2.2.2.1,.hnd 55004 q.2.2.2.2.1,.hnd 8010 1,.t (.int .i64 p.now.tick),.t (.int .i64 p.now.seed),.hnd 8013 1,.hnd 8014 1,.hnd 8015 q.2.2.2.2.2.1,.hnd 8016 q.2.2.2.2.2.2.1,.hnd 8017 q.2.2.2.2.2.2.2,.t (.int .i64 p.ft),.t (.int .i64 p.fp),.t (.int .i64 p.fa),.t (.int .i64 p.rolls),.t (.int .i64 p.again)]),(55000,q.2.2.2.2.1,.row true true 9 (Zai q.1.level)),(55003,q.2.2.2.2.1,.row true true 3 (Zak q.1.scores)),(55004,q.2.2.2.2.1,.row true true 114 (q.1.bodies.map bodyC)),(8015,q.2.2.2.2.2.1,.row false true 27 (q.2.1.map trackC)),(8016,q.2.2.2.2.2.2.1,.row true true 100 (q.2.2.1.map saveC)),(8017,q.2.2.2.2.2.2.2,.row true true 3 (Zak q.2.2.2.1))]) [(1,_,_),(2,_,_),(8004,_,_),(8010,_,_),(8013,_,_),(8014,_,_)] (fun q=>v=Zki (p.now.tick - q.1.tick).toNat (Zqi p q.1 q.2.1 q.2.2.1 q.2.2.2.1)∧Zic (Zqi p q.1 q.2.1 q.2.2.1 q.2.2.2.1)∧Zc0 (Zqi p q.1 q.2.1 q.2.2.1 q.2.2.2.1)) (fun q=>(p.now.tick - q.1.tick).toNat) (p.base,p.used,p.saves,p.sums,1,1,1,1) ⟨hv,hpp,hd⟩ (by (exact plei)) ?_
 rintro ⟨b,us,sv,sm,e1,e2,e3,e4⟩ hI
 obtain ⟨hq,hqp,hqd⟩:v=Zki (p.now.tick - b.tick).toNat (Zqi p b us sv sm)∧Zic (Zqi p b us sv sm)∧Zc0 (Zqi p b us sv sm):=hI
 have hql:=Zp3 hqp
 have hfw:=ZqI (Zqi p b us sv sm) hql
 dsimp only [pcR] at hfw
 have hpo:=Zgt (Zqi p b us sv sm) hql.tracks.1
 dsimp only [pcR] at hpo
 rw [Zbq.2 hqp] at hpo
 have hsa:=ZiA (Zqi p b us sv sm) (b.tick + 1) hql hqd _ rfl
 dsimp only [pcR] at hsa
 have hsl:(sv.map saveC).length=sv.length:=List.length_map _
 have hul:(us.map trackC).length=us.length:=List.length_map _
 have hml:=Zal sm
 have hse:(sv.length:Int)=p.now.tick - b.tick:=hqp.saves
 have hue:(us.length:Int)=p.now.tick - b.tick:=hqp.used
 have hme:(sm.length:Int)=b.tick + 1:=hqp.sums
 have hbt:0≤b.tick∧b.tick≤100000:=hqp.base.tick
 have hnt:=hpp.now.tick
 have hgo:ZqE (Zqi p b us sv sm)↔b.tick < p.now.tick∧b.tick < Zbe p.tracks∧ZdR (Zqi p b us sv sm) ≠ b.tick:=Iff.rfl
 generalize ZdR (Zqi p b us sv sm)=fw at hfw hgo
 refine pln ?_
 by_cases hg:ZqE (Zqi p b us sv sm)
 case neg =>
  rw [show (p.now.tick - b.tick).toNat=((Zqi p b us sv sm).now.tick - (Zqi p b us sv sm).base.tick).toNat from rfl,Zqu (Zrh hg)] at hq
  dsimp only [Zqi] at hq hfw hpo
  subst hq
  by_cases c1:b.tick < p.now.tick
  case neg =>
   repeat' (first|refine pa ?_|(refine pb ?_ ?_<;>intro hg)|(refine z9 ?_;(refine Zaa hpo ?_))|refine po ?_|(refine T101d4 ?_)|fail)
   exact pfg
  by_cases c2:b.tick < Zbe p.tracks
  case neg =>
   repeat' (first|refine pa ?_|(refine pb ?_ ?_<;>intro hg)|(refine z9 ?_;(first|refine Zaa hpo ?_|refine Zaa hkt ?_))|refine po ?_|((apply pdq 28;(focus exact pdp);(focus (refine pt7_ 0 ?_<;>(refine pq1 1 ?_)<;>(refine pop ?_;(first|(refine z9 ?_;(first|refine Zaa hpo ?_|refine Zaa hkt ?_))|refine pk20 ?_))<;>refine pt0_ 2 ?_<;>(first|refine ZaK 3 ?_|(refine pt2 3 ?_ ?_<;>intro hg<;>(refine ZaK 3 ?_)))<;>(first|refine ZaK 4 ?_|(refine pt2 4 ?_ ?_<;>intro hg<;>(refine ZaK 4 ?_)))<;>(first|refine pg7_ 5 ?_|(refine pt2 5 ?_ ?_<;>intro hg<;>(refine pg7_ 5 ?_)))<;>(first|refine ZaK 6 ?_|(refine pt2 6 ?_ ?_<;>intro hg<;>(refine ZaK 6 ?_)))<;>(first|refine ZaK 7 ?_|(refine pt2 7 ?_ ?_<;>intro hg<;>(refine ZaK 7 ?_)))<;>(first|refine pg7_ 8 ?_|(refine pt2 8 ?_ ?_<;>intro hg<;>(refine pg7_ 8 ?_)))<;>(first|refine ZcA 9 ?_|(refine pt2 9 ?_ ?_<;>intro hg<;>(refine ZcA 9 ?_)))<;>refine pt2_ 10 ?_<;>refine pt0_ 11 ?_<;>(first|refine ZaK 12 ?_|(refine pt2 12 ?_ ?_<;>intro hg<;>(refine ZaK 12 ?_)))<;>(first|refine ZaK 13 ?_|(refine pt2 13 ?_ ?_<;>intro hg<;>(refine ZaK 13 ?_)))<;>(first|refine pg7_ 14 ?_|(refine pt2 14 ?_ ?_<;>intro hg<;>(refine pg7_ 14 ?_)))<;>(first|refine ZaK 15 ?_|(refine pt2 15 ?_ ?_<;>intro hg<;>(refine ZaK 15 ?_)))<;>(first|refine pg7_ 16 ?_|(refine pt2 16 ?_ ?_<;>intro hg<;>(refine pg7_ 16 ?_)))<;>(refine pq1 17 ?_)<;>(first|(refine pog ?_;(first|(refine z9 ?_;(first|refine Zaa hpo ?_|refine Zaa hkt ?_))|refine pk20 ?_))|refine pon ?_|(refine po2 ?_ ?_<;>intro hg<;>(first|(refine pog ?_;(first|(refine z9 ?_;(first|refine Zaa hpo ?_|refine Zaa hkt ?_))|refine pk20 ?_))|refine pon ?_)))<;>(first|refine ZcA 18 ?_|(refine pt2 18 ?_ ?_<;>intro hg<;>(refine ZcA 18 ?_)))<;>refine pt2_ 19 ?_<;>refine pt0_ 20 ?_<;>(first|refine pg7_ 21 ?_|(refine pt2 21 ?_ ?_<;>intro hg<;>(refine pg7_ 21 ?_)))<;>(first|refine ZaK 23 ?_|(refine pt2 23 ?_ ?_<;>intro hg<;>(refine ZaK 23 ?_)))<;>(first|refine ZaK 24 ?_|(refine pt2 24 ?_ ?_<;>intro hg<;>(refine ZaK 24 ?_)))<;>(first|refine pg7_ 25 ?_|(refine pt2 25 ?_ ?_<;>intro hg<;>(refine pg7_ 25 ?_)))<;>(refine pq1 22 ?_)<;>(first|(refine pog ?_;(first|(refine z9 ?_;(first|refine Zaa hpo ?_|refine Zaa hkt ?_))|refine pk20 ?_))|refine pon ?_|(refine po2 ?_ ?_<;>intro hg<;>(first|(refine pog ?_;(first|(refine z9 ?_;(first|refine Zaa hpo ?_|refine Zaa hkt ?_))|refine pk20 ?_))|refine pon ?_)))<;>(first|refine ZcA 26 ?_|(refine pt2 26 ?_ ?_<;>intro hg<;>(refine ZcA 26 ?_)))<;>refine pt2_ 27 ?_<;>(refine ZaI ?_;exact ZaJ)))))|fail)
   exact pfg
  have c3:fw=b.tick:=Classical.byContradiction fun c3=>hg (hgo.2 ⟨c1,c2,c3⟩)
  repeat' (first|refine pa ?_|(refine pb ?_ ?_<;>intro hg)|(refine z9 ?_;(first|refine Zaa hpo ?_|refine Zaa hkt ?_|refine Zaa hfw ?_))|refine po ?_|((apply pdq 28;(focus exact pdp);(focus (refine pt7_ 0 ?_<;>(refine pq1 1 ?_)<;>(refine pop ?_;(first|(refine z9 ?_;(first|refine Zaa hpo ?_|refine Zaa hkt ?_|refine Zaa hfw ?_))|refine pk20 ?_))<;>refine pt0_ 2 ?_<;>(first|refine ZaK 3 ?_|(refine pt2 3 ?_ ?_<;>intro hg<;>(refine ZaK 3 ?_)))<;>(first|refine ZaK 4 ?_|(refine pt2 4 ?_ ?_<;>intro hg<;>(refine ZaK 4 ?_)))<;>(first|refine pg7_ 5 ?_|(refine pt2 5 ?_ ?_<;>intro hg<;>(refine pg7_ 5 ?_)))<;>(first|refine ZaK 6 ?_|(refine pt2 6 ?_ ?_<;>intro hg<;>(refine ZaK 6 ?_)))<;>(first|refine ZaK 7 ?_|(refine pt2 7 ?_ ?_<;>intro hg<;>(refine ZaK 7 ?_)))<;>(first|refine pg7_ 8 ?_|(refine pt2 8 ?_ ?_<;>intro hg<;>(refine pg7_ 8 ?_)))<;>(first|refine ZcA 9 ?_|(refine pt2 9 ?_ ?_<;>intro hg<;>(refine ZcA 9 ?_)))<;>refine pt2_ 10 ?_<;>refine pt0_ 11 ?_<;>(first|refine ZaK 12 ?_|(refine pt2 12 ?_ ?_<;>intro hg<;>(refine ZaK 12 ?_)))<;>(first|refine ZaK 13 ?_|(refine pt2 13 ?_ ?_<;>intro hg<;>(refine ZaK 13 ?_)))<;>(first|refine pg7_ 14 ?_|(refine pt2 14 ?_ ?_<;>intro hg<;>(refine pg7_ 14 ?_)))<;>(first|refine ZaK 15 ?_|(refine pt2 15 ?_ ?_<;>intro hg<;>(refine ZaK 15 ?_)))<;>(first|refine pg7_ 16 ?_|(refine pt2 16 ?_ ?_<;>intro hg<;>(refine pg7_ 16 ?_)))<;>(refine pq1 17 ?_)<;>(first|(refine pog ?_;(first|(refine z9 ?_;(first|refine Zaa hpo ?_|refine Zaa hkt ?_|refine Zaa hfw ?_))|refine pk20 ?_))|refine pon ?_|(refine po2 ?_ ?_<;>intro hg<;>(first|(refine pog ?_;(first|(refine z9 ?_;(first|refine Zaa hpo ?_|refine Zaa hkt ?_|refine Zaa hfw ?_))|refine pk20 ?_))|refine pon ?_)))<;>(first|refine ZcA 18 ?_|(refine pt2 18 ?_ ?_<;>intro hg<;>(refine ZcA 18 ?_)))<;>refine pt2_ 19 ?_<;>refine pt0_ 20 ?_<;>(first|refine pg7_ 21 ?_|(refine pt2 21 ?_ ?_<;>intro hg<;>(refine pg7_ 21 ?_)))<;>(first|refine ZaK 23 ?_|(refine pt2 23 ?_ ?_<;>intro hg<;>(refine ZaK 23 ?_)))<;>(first|refine ZaK 24 ?_|(refine pt2 24 ?_ ?_<;>intro hg<;>(refine ZaK 24 ?_)))<;>(first|refine pg7_ 25 ?_|(refine pt2 25 ?_ ?_<;>intro hg<;>(refine pg7_ 25 ?_)))<;>(refine pq1 22 ?_)<;>(first|(refine pog ?_;(first|(refine z9 ?_;(first|refine Zaa hpo ?_|refine Zaa hkt ?_|refine Zaa hfw ?_))|refine pk20 ?_))|refine pon ?_|(refine po2 ?_ ?_<;>intro hg<;>(first|(refine pog ?_;(first|(refine z9 ?_;(first|refine Zaa hpo ?_|refine Zaa hkt ?_|refine Zaa hfw ?_))|refine pk20 ?_))|refine pon ?_)))<;>(first|refine ZcA 26 ?_|(refine pt2 26 ?_ ?_<;>intro hg<;>(refine ZcA 26 ?_)))<;>refine pt2_ 27 ?_<;>(refine ZaI ?_;exact ZaJ)))))|fail)
  exact pfg
 obtain ⟨c1,c2,c3⟩:=hgo.1 hg
 by_cases hb1:b.tick + 1=p.now.tick
 ·have hn:ZqN (Zqi p b us sv sm)=some p.now:=if_pos hb1
  have hstep:=ZqD hqp (Zql hg hn)
  obtain ⟨hrp,hrt,_,_,_⟩:=Zqp hqp (Zql hg hn)
  have hrd:=ZqV hqd p.now
  rw [ZqJ] at hstep hrp hrt hrd
  replace hq:=hq.trans hstep
  dsimp only [Zqi] at hfw hpo
  have hws:=ZqW p.now
  have hcw:=Zft p.now n1 n2 n3
  generalize hwse:Zgm p.now=ws at hws
  repeat' (first|(refine pth ?_)|((fail_if_success (with_reducible first|refine pA1 12 ?_|refine pA2 12 ?_|refine pA3 12 ?_));(first|refine pc ?_|(refine pbc ?_ ?_<;>intro hg)))|(first|refine pl ?_|(refine pbl ?_ ?_<;>intro hg))|(first|refine ZaX ?_|refine ZkW ?_|(refine z9 ?_;(first|refine Zaa hpo ?_|refine Zaa hkt ?_|refine Zaa hfw ?_|refine Zaa hws ?_|refine pz3 hcw ?_))|refine po ?_)|((apply pdq 28;(focus exact pdp);(focus (refine pt7_ 0 ?_<;>(refine pq1 1 ?_)<;>(refine pop ?_;(first|(refine z9 ?_;(first|refine Zaa hpo ?_|refine Zaa hkt ?_|refine Zaa hfw ?_|refine Zaa hws ?_|refine pz3 hcw ?_))|refine pk20 ?_))<;>refine pt0_ 2 ?_<;>(first|refine ZaK 3 ?_|(refine pt2 3 ?_ ?_<;>intro hg<;>(refine ZaK 3 ?_)))<;>(first|refine ZaK 4 ?_|(refine pt2 4 ?_ ?_<;>intro hg<;>(refine ZaK 4 ?_)))<;>(first|refine pg7_ 5 ?_|(refine pt2 5 ?_ ?_<;>intro hg<;>(refine pg7_ 5 ?_)))<;>(first|refine ZaK 6 ?_|(refine pt2 6 ?_ ?_<;>intro hg<;>(refine ZaK 6 ?_)))<;>(first|refine ZaK 7 ?_|(refine pt2 7 ?_ ?_<;>intro hg<;>(refine ZaK 7 ?_)))<;>(first|refine pg7_ 8 ?_|(refine pt2 8 ?_ ?_<;>intro hg<;>(refine pg7_ 8 ?_)))<;>(first|refine ZcA 9 ?_|(refine pt2 9 ?_ ?_<;>intro hg<;>(refine ZcA 9 ?_)))<;>refine pt2_ 10 ?_<;>refine pt0_ 11 ?_<;>(first|refine ZaK 12 ?_|(refine pt2 12 ?_ ?_<;>intro hg<;>(refine ZaK 12 ?_)))<;>(first|refine ZaK 13 ?_|(refine pt2 13 ?_ ?_<;>intro hg<;>(refine ZaK 13 ?_)))<;>(first|refine pg7_ 14 ?_|(refine pt2 14 ?_ ?_<;>intro hg<;>(refine pg7_ 14 ?_)))<;>(first|refine ZaK 15 ?_|(refine pt2 15 ?_ ?_<;>intro hg<;>(refine ZaK 15 ?_)))<;>(first|refine pg7_ 16 ?_|(refine pt2 16 ?_ ?_<;>intro hg<;>(refine pg7_ 16 ?_)))<;>(refine pq1 17 ?_)<;>(first|(refine pog ?_;(first|(refine z9 ?_;(first|refine Zaa hpo ?_|refine Zaa hkt ?_|refine Zaa hfw ?_|refine Zaa hws ?_|refine pz3 hcw ?_))|refine pk20 ?_))|refine pon ?_|(refine po2 ?_ ?_<;>intro hg<;>(first|(refine pog ?_;(first|(refine z9 ?_;(first|refine Zaa hpo ?_|refine Zaa hkt ?_|refine Zaa hfw ?_|refine Zaa hws ?_|refine pz3 hcw ?_))|refine pk20 ?_))|refine pon ?_)))<;>(first|refine ZcA 18 ?_|(refine pt2 18 ?_ ?_<;>intro hg<;>(refine ZcA 18 ?_)))<;>refine pt2_ 19 ?_<;>refine pt0_ 20 ?_<;>(first|refine pg7_ 21 ?_|(refine pt2 21 ?_ ?_<;>intro hg<;>(refine pg7_ 21 ?_)))<;>(first|refine ZaK 23 ?_|(refine pt2 23 ?_ ?_<;>intro hg<;>(refine ZaK 23 ?_)))<;>(first|refine ZaK 24 ?_|(refine pt2 24 ?_ ?_<;>intro hg<;>(refine ZaK 24 ?_)))<;>(first|refine pg7_ 25 ?_|(refine pt2 25 ?_ ?_<;>intro hg<;>(refine pg7_ 25 ?_)))<;>(refine pq1 22 ?_)<;>(first|(refine pog ?_;(first|(refine z9 ?_;(first|refine Zaa hpo ?_|refine Zaa hkt ?_|refine Zaa hfw ?_|refine Zaa hws ?_|refine pz3 hcw ?_))|refine pk20 ?_))|refine pon ?_|(refine po2 ?_ ?_<;>intro hg<;>(first|(refine pog ?_;(first|(refine z9 ?_;(first|refine Zaa hpo ?_|refine Zaa hkt ?_|refine Zaa hfw ?_|refine Zaa hws ?_|refine pz3 hcw ?_))|refine pk20 ?_))|refine pon ?_)))<;>(first|refine ZcA 26 ?_|(refine pt2 26 ?_ ?_<;>intro hg<;>(refine ZcA 26 ?_)))<;>refine pt2_ 27 ?_<;>(refine ZaI ?_;exact ZaJ)))))|(refine Zqx ?_)|fail)
  rw [ZqU us rfl,ZqU sv rfl]
  have hsd:(sv.drop 1).length=sv.length - 1:=List.length_drop
  have hs1:sv.drop 1=[]:=List.eq_nil_of_length_eq_zero (by omega)
  rw [hs1] at hq hrp hrd ⊢
  repeat' (first|refine pa ?_|(refine pb ?_ ?_<;>intro hg)|refine po ?_|fail)
  exact ⟨(p.now,us.drop 1,[],sm++[ws],_,_,_,_),⟨by rw [← hwse];exact hq,by rw [← hwse];exact hrp,by rw [← hwse];exact hrd⟩,by show (p.now.tick - p.now.tick).toNat < (p.now.tick - b.tick).toNat;omega,by rw [Zky];(exact ple)⟩
 ·have hnc:ZqN (Zqi p b us sv sm)=Zbn (Zqi p b us sv sm) (b.tick + 1):=if_neg hb1
  have hse2:2≤sv.length:=by omega
  cases hs0:Zbn (Zqi p b us sv sm) (b.tick + 1) with
  | none =>
   rw [show (p.now.tick - b.tick).toNat=((Zqi p b us sv sm).now.tick - (Zqi p b us sv sm).base.tick).toNat from rfl,Zqu (ZqL hg (hnc.trans hs0))] at hq
   rw [hs0] at hsa
   dsimp only [Zqi,Option.getD_none,Option.isSome_none] at hq hfw hpo hsa
   subst hq
   repeat' (first|refine pa ?_|(refine pb ?_ ?_<;>intro hg)|(refine z9 ?_;(first|refine Zaa hpo ?_|refine Zaa hkt ?_|refine Zaa hfw ?_|refine pz3 hsa ?_))|refine po ?_|((apply pdq 28;(focus exact pdp);(focus (refine pt7_ 0 ?_<;>(refine pq1 1 ?_)<;>(refine pop ?_;(first|(refine z9 ?_;(first|refine Zaa hpo ?_|refine Zaa hkt ?_|refine Zaa hfw ?_|refine pz3 hsa ?_))|refine pk20 ?_))<;>refine pt0_ 2 ?_<;>(first|refine ZaK 3 ?_|(refine pt2 3 ?_ ?_<;>intro hg<;>(refine ZaK 3 ?_)))<;>(first|refine ZaK 4 ?_|(refine pt2 4 ?_ ?_<;>intro hg<;>(refine ZaK 4 ?_)))<;>(first|refine pg7_ 5 ?_|(refine pt2 5 ?_ ?_<;>intro hg<;>(refine pg7_ 5 ?_)))<;>(first|refine ZaK 6 ?_|(refine pt2 6 ?_ ?_<;>intro hg<;>(refine ZaK 6 ?_)))<;>(first|refine ZaK 7 ?_|(refine pt2 7 ?_ ?_<;>intro hg<;>(refine ZaK 7 ?_)))<;>(first|refine pg7_ 8 ?_|(refine pt2 8 ?_ ?_<;>intro hg<;>(refine pg7_ 8 ?_)))<;>(first|refine ZcA 9 ?_|(refine pt2 9 ?_ ?_<;>intro hg<;>(refine ZcA 9 ?_)))<;>refine pt2_ 10 ?_<;>refine pt0_ 11 ?_<;>(first|refine ZaK 12 ?_|(refine pt2 12 ?_ ?_<;>intro hg<;>(refine ZaK 12 ?_)))<;>(first|refine ZaK 13 ?_|(refine pt2 13 ?_ ?_<;>intro hg<;>(refine ZaK 13 ?_)))<;>(first|refine pg7_ 14 ?_|(refine pt2 14 ?_ ?_<;>intro hg<;>(refine pg7_ 14 ?_)))<;>(first|refine ZaK 15 ?_|(refine pt2 15 ?_ ?_<;>intro hg<;>(refine ZaK 15 ?_)))<;>(first|refine pg7_ 16 ?_|(refine pt2 16 ?_ ?_<;>intro hg<;>(refine pg7_ 16 ?_)))<;>(refine pq1 17 ?_)<;>(first|(refine pog ?_;(first|(refine z9 ?_;(first|refine Zaa hpo ?_|refine Zaa hkt ?_|refine Zaa hfw ?_|refine pz3 hsa ?_))|refine pk20 ?_))|refine pon ?_|(refine po2 ?_ ?_<;>intro hg<;>(first|(refine pog ?_;(first|(refine z9 ?_;(first|refine Zaa hpo ?_|refine Zaa hkt ?_|refine Zaa hfw ?_|refine pz3 hsa ?_))|refine pk20 ?_))|refine pon ?_)))<;>(first|refine ZcA 18 ?_|(refine pt2 18 ?_ ?_<;>intro hg<;>(refine ZcA 18 ?_)))<;>refine pt2_ 19 ?_<;>refine pt0_ 20 ?_<;>(first|refine pg7_ 21 ?_|(refine pt2 21 ?_ ?_<;>intro hg<;>(refine pg7_ 21 ?_)))<;>(first|refine ZaK 23 ?_|(refine pt2 23 ?_ ?_<;>intro hg<;>(refine ZaK 23 ?_)))<;>(first|refine ZaK 24 ?_|(refine pt2 24 ?_ ?_<;>intro hg<;>(refine ZaK 24 ?_)))<;>(first|refine pg7_ 25 ?_|(refine pt2 25 ?_ ?_<;>intro hg<;>(refine pg7_ 25 ?_)))<;>(refine pq1 22 ?_)<;>(first|(refine pog ?_;(first|(refine z9 ?_;(first|refine Zaa hpo ?_|refine Zaa hkt ?_|refine Zaa hfw ?_|refine pz3 hsa ?_))|refine pk20 ?_))|refine pon ?_|(refine po2 ?_ ?_<;>intro hg<;>(first|(refine pog ?_;(first|(refine z9 ?_;(first|refine Zaa hpo ?_|refine Zaa hkt ?_|refine Zaa hfw ?_|refine pz3 hsa ?_))|refine pk20 ?_))|refine pon ?_)))<;>(first|refine ZcA 26 ?_|(refine pt2 26 ?_ ?_<;>intro hg<;>(refine ZcA 26 ?_)))<;>refine pt2_ 27 ?_<;>(refine ZaI ?_;exact ZaJ)))))|fail)
   exact pfg
  | some w =>
   have hn:=hnc.trans hs0
   have hstep:=ZqD hqp (Zql hg hn)
   obtain ⟨hrp,hrt,_,_,_⟩:=Zqp hqp (Zql hg hn)
   have hrd:=ZqV hqd w
   rw [ZqJ] at hstep hrp hrt hrd
   have hwt:w.tick=b.tick + 1:=hrt
   obtain ⟨m1,m2,m3⟩:=Zee (Zgc hs0).2.1
   replace hq:=hq.trans hstep
   rw [hs0] at hsa
   dsimp only [Zqi,Option.getD_some,Option.isSome_some] at hfw hpo hsa
   have hcw:=Zft w m1 m2 m3
   have hws:=ZqW w
   have hwb:=Zfl w
   have hdt:=Zqt (Zbp w) (Zbp w) (by have:=ZgG (w:=w);omega)
   generalize hwse:Zgm w=ws at hws
   generalize hwbe:Zbp w=wb at hwb hdt
   generalize hdte:Zkl wb wb=dt at hdt
   repeat' (first|(refine pth ?_)|((fail_if_success (with_reducible first|refine pA1 12 ?_|refine pA2 12 ?_|refine pA3 12 ?_));(first|refine pc ?_|(refine pbc ?_ ?_<;>intro hg)))|(first|refine pl ?_|(refine pbl ?_ ?_<;>intro hg))|(first|refine ZaX ?_|refine ZkW ?_|(refine z9 ?_;(first|refine Zaa hpo ?_|refine Zaa hkt ?_|refine Zaa hfw ?_|refine Zaa hws ?_|refine pz3 hsa ?_|refine pz3 hcw ?_))|refine po ?_)|((apply pdq 28;(focus exact pdp);(focus (refine pt7_ 0 ?_<;>(refine pq1 1 ?_)<;>(refine pop ?_;(first|(refine z9 ?_;(first|refine Zaa hpo ?_|refine Zaa hkt ?_|refine Zaa hfw ?_|refine Zaa hws ?_|refine pz3 hsa ?_|refine pz3 hcw ?_))|refine pk20 ?_))<;>refine pt0_ 2 ?_<;>(first|refine ZaK 3 ?_|(refine pt2 3 ?_ ?_<;>intro hg<;>(refine ZaK 3 ?_)))<;>(first|refine ZaK 4 ?_|(refine pt2 4 ?_ ?_<;>intro hg<;>(refine ZaK 4 ?_)))<;>(first|refine pg7_ 5 ?_|(refine pt2 5 ?_ ?_<;>intro hg<;>(refine pg7_ 5 ?_)))<;>(first|refine ZaK 6 ?_|(refine pt2 6 ?_ ?_<;>intro hg<;>(refine ZaK 6 ?_)))<;>(first|refine ZaK 7 ?_|(refine pt2 7 ?_ ?_<;>intro hg<;>(refine ZaK 7 ?_)))<;>(first|refine pg7_ 8 ?_|(refine pt2 8 ?_ ?_<;>intro hg<;>(refine pg7_ 8 ?_)))<;>(first|refine ZcA 9 ?_|(refine pt2 9 ?_ ?_<;>intro hg<;>(refine ZcA 9 ?_)))<;>refine pt2_ 10 ?_<;>refine pt0_ 11 ?_<;>(first|refine ZaK 12 ?_|(refine pt2 12 ?_ ?_<;>intro hg<;>(refine ZaK 12 ?_)))<;>(first|refine ZaK 13 ?_|(refine pt2 13 ?_ ?_<;>intro hg<;>(refine ZaK 13 ?_)))<;>(first|refine pg7_ 14 ?_|(refine pt2 14 ?_ ?_<;>intro hg<;>(refine pg7_ 14 ?_)))<;>(first|refine ZaK 15 ?_|(refine pt2 15 ?_ ?_<;>intro hg<;>(refine ZaK 15 ?_)))<;>(first|refine pg7_ 16 ?_|(refine pt2 16 ?_ ?_<;>intro hg<;>(refine pg7_ 16 ?_)))<;>(refine pq1 17 ?_)<;>(first|(refine pog ?_;(first|(refine z9 ?_;(first|refine Zaa hpo ?_|refine Zaa hkt ?_|refine Zaa hfw ?_|refine Zaa hws ?_|refine pz3 hsa ?_|refine pz3 hcw ?_))|refine pk20 ?_))|refine pon ?_|(refine po2 ?_ ?_<;>intro hg<;>(first|(refine pog ?_;(first|(refine z9 ?_;(first|refine Zaa hpo ?_|refine Zaa hkt ?_|refine Zaa hfw ?_|refine Zaa hws ?_|refine pz3 hsa ?_|refine pz3 hcw ?_))|refine pk20 ?_))|refine pon ?_)))<;>(first|refine ZcA 18 ?_|(refine pt2 18 ?_ ?_<;>intro hg<;>(refine ZcA 18 ?_)))<;>refine pt2_ 19 ?_<;>refine pt0_ 20 ?_<;>(first|refine pg7_ 21 ?_|(refine pt2 21 ?_ ?_<;>intro hg<;>(refine pg7_ 21 ?_)))<;>(first|refine ZaK 23 ?_|(refine pt2 23 ?_ ?_<;>intro hg<;>(refine ZaK 23 ?_)))<;>(first|refine ZaK 24 ?_|(refine pt2 24 ?_ ?_<;>intro hg<;>(refine ZaK 24 ?_)))<;>(first|refine pg7_ 25 ?_|(refine pt2 25 ?_ ?_<;>intro hg<;>(refine pg7_ 25 ?_)))<;>(refine pq1 22 ?_)<;>(first|(refine pog ?_;(first|(refine z9 ?_;(first|refine Zaa hpo ?_|refine Zaa hkt ?_|refine Zaa hfw ?_|refine Zaa hws ?_|refine pz3 hsa ?_|refine pz3 hcw ?_))|refine pk20 ?_))|refine pon ?_|(refine po2 ?_ ?_<;>intro hg<;>(first|(refine pog ?_;(first|(refine z9 ?_;(first|refine Zaa hpo ?_|refine Zaa hkt ?_|refine Zaa hfw ?_|refine Zaa hws ?_|refine pz3 hsa ?_|refine pz3 hcw ?_))|refine pk20 ?_))|refine pon ?_)))<;>(first|refine ZcA 26 ?_|(refine pt2 26 ?_ ?_<;>intro hg<;>(refine ZcA 26 ?_)))<;>refine pt2_ 27 ?_<;>(refine ZaI ?_;exact ZaJ)))))|(refine Zqx ?_)|fail)
   rw [ZqU us rfl,ZqU sv rfl]
   have hsd:(sv.drop 1).length=sv.length - 1:=List.length_drop
   cases hs1:sv.drop 1 with
   | nil =>
    rw [hs1] at hsd
    exact absurd hsd (by show ¬ 0=sv.length - 1;omega)
   | cons s r =>
    rw [hs1] at hsd hq hrp hrd
    have hfx:ZpL w (s :: r)=(s.1,dt) :: r:=by rw [← hdte,← hwbe];rfl
    rw [hfx] at hq hrp hrd
    have hcl:(List.map saveC (s :: r)).length=r.length + 1:=by rw [List.length_map];rfl
    have hcl2:(s :: r).length=r.length + 1:=rfl
    repeat' (first|refine pa ?_|(refine pb ?_ ?_<;>intro hg)|(refine z9 ?_;(first|refine Zaa hwb ?_|refine Zaa hdt ?_))|refine po ?_|(refine Zqw ?_)|fail)
    exact ⟨(w,us.drop 1,(s.1,dt) :: r,sm++[ws],_,_,_,_),⟨by rw [← hwse];exact hq,by rw [← hwse];exact hrp,by rw [← hwse];exact hrd⟩,by show (p.now.tick - w.tick).toNat < (p.now.tick - b.tick).toNat;omega,by rw [Zky];(exact ple)⟩
end Go.Proofs.YthfaongbpdnlnaaGreat
