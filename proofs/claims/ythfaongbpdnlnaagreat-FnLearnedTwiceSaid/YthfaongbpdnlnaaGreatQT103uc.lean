/- What is proved: contracts on learning from a packet. Conditions: as each lemma says. -/
import Derived.Test.YthfaongbpdnlnaaGreatQPC
import Derived.Test.YthfaongbpdnlnaaGreatT88uc
import Derived.Test.YthfaongbpdnlnaaGreatQT35ud
import Derived.Test.YthfaongbpdnlnaaGreatQV34
import Derived.Test.YthfaongbpdnlnaaGreatQT100ub
import Derived.Test.YthfaongbpdnlnaaGreatQT101ub
import Derived.Test.YthfaongbpdnlnaaGreatQT100uc
namespace Go.Proofs.YthfaongbpdnlnaaGreat
set_option maxHeartbeats 4000000
set_option maxRecDepth 20000
set_option linter.unusedSimpArgs false
set_option linter.unusedVariables false
open Go.RowKit Ab
theorem T101d3 {X Y:Prop} (h:Y) (r:Hld Y→X:=by intro h;(apply pdq 22;(focus exact pdp);(focus (refine ZaC 0 ?_<;>refine ZaC 1 ?_<;>refine pt7_ 2 ?_<;>refine ZaC 3 ?_<;>refine ZaC 4 ?_<;>refine pt7_ 5 ?_<;>refine Zbh 6 ?_<;>refine pt0_ 7 ?_<;>(first|refine ZaK 8 ?_|(refine pt2 8 ?_ ?_<;>intro hg<;>(refine ZaK 8 ?_)))<;>(first|refine ZaK 9 ?_|(refine pt2 9 ?_ ?_<;>intro hg<;>(refine ZaK 9 ?_)))<;>(first|refine pg7_ 10 ?_|(refine pt2 10 ?_ ?_<;>intro hg<;>(refine pg7_ 10 ?_)))<;>(first|refine pg0_ 11 ?_|(refine pt2 11 ?_ ?_<;>intro hg<;>(refine pg0_ 11 ?_)))<;>(first|refine ZcA 12 ?_|(refine pt2 12 ?_ ?_<;>intro hg<;>(refine ZcA 12 ?_)))<;>refine pt2_ 13 ?_<;>refine pt0_ 14 ?_<;>(first|refine pg7_ 15 ?_|(refine pt2 15 ?_ ?_<;>intro hg<;>(refine pg7_ 15 ?_)))<;>(first|refine ZaK 17 ?_|(refine pt2 17 ?_ ?_<;>intro hg<;>(refine ZaK 17 ?_)))<;>(first|refine ZaK 18 ?_|(refine pt2 18 ?_ ?_<;>intro hg<;>(refine ZaK 18 ?_)))<;>(first|refine pg7_ 19 ?_|(refine pt2 19 ?_ ?_<;>intro hg<;>(refine pg7_ 19 ?_)))<;>(refine pq1 16 ?_)<;>(first|(refine pog ?_;refine pk20 ?_)|refine pon ?_|(refine po2 ?_ ?_<;>intro hg<;>(first|(refine pog ?_;refine pk20 ?_)|refine pon ?_)))<;>(first|refine ZcA 20 ?_|(refine pt2 20 ?_ ?_<;>intro hg<;>(refine ZcA 20 ?_)))<;>refine pt2_ 21 ?_<;>(refine ZaI ?_;exact ZaJ))));exact h.out):X:=r ⟨h⟩
theorem ZqS (p:Pr) (hpp:Zic p) (hp:Zeq p) (hd:Zc0 p) (v:Wd) (hv:v=(ZqN p).getD ZcB):AC Tryz.prog 75 [.agg (pcR p)] (.tup [.agg [.fr true 9 (Zai v.level),.t (.int .i64 v.tick),.t (.int .i64 v.seed),.fr true 3 (Zak v.scores),.fr true 114 (v.bodies.map bodyC)],.t (.bool (ZqN p).isSome)]):=by
 have hbt:=hpp.base.tick
 have hcw:=Zc1 p.now hp.now.1 hp.now.2.1 hp.now.2.2
 have hsa:=Ziy p (p.base.tick + 1) hp hd _ rfl
 dsimp only [pcR] at hsa
 by_cases h:p.base.tick + 1=p.now.tick
 ·rw [show ZqN p=some p.now from if_pos h] at hv ⊢
  dsimp only [Option.getD_some,Option.isSome_some] at hv ⊢
  subst hv
  refine AC.go Tryz.func75 Tryz.ntmps75 fun B W hr=>?_
  dsimp only [pcR]
  repeat' (first|refine pa ?_|(refine pb ?_ ?_<;>intro hg)|(refine z9 ?_;(refine pz3 hcw ?_))|refine po ?_|fail)
  exact pfg
 ·rw [show ZqN p=Zbn p (p.base.tick + 1) from if_neg h] at hv ⊢
  rw [← hv] at hsa
  refine AC.go Tryz.func75 Tryz.ntmps75 fun B W hr=>?_
  dsimp only [pcR]
  repeat' (first|refine pa ?_|(refine pb ?_ ?_<;>intro hg)|(refine z9 ?_;(refine pz3 hsa ?_))|refine po ?_|fail)
  exact pfg
theorem ZrG (p:Pr) (hp:Zeq p) (hd:Zc0 p) (v:Pr) (hv:v=confirmV p):AC Tryz.prog 21 [.agg (pcR p)] (.agg (pcF v)):=by
 have hpo:=Zgp p hp.tracks.1
 dsimp only [pcR] at hpo
 have hcp:=ZjY p hp
 dsimp only [pcR,pcF] at hcp
 by_cases h1:Zb9 p=true
 case neg =>
  rw [confirmV,if_neg h1] at hv
  rw [Bool.not_eq_true] at h1
  rw [h1] at hpo
  subst hv
  refine AC.go Tryz.func21 Tryz.ntmps21 fun B W hr=>?_
  dsimp only [pcR,pcF]
  repeat' (first|refine pa ?_|(refine pb ?_ ?_<;>intro hg)|(refine z9 ?_;(first|refine Zaa hpo ?_|refine pz3 hcp ?_))|refine po ?_|fail)
  exact pfg
 rw [confirmV,if_pos h1] at hv
 rw [h1] at hpo
 have hpp:=Zbq.1 h1
 have hkt:=ZdB p.tracks
 have hkl:=Zg5 (ts:=p.tracks)
 refine AC.go Tryz.func21 Tryz.ntmps21 fun B W hr=>?_
 dsimp only [pcR,pcF]
 repeat' (first|refine pa ?_|(refine pb ?_ ?_<;>intro hg)|(refine z9 ?_;(first|refine Zaa hpo ?_|refine Zaa hkt ?_|refine pz3 hcp ?_))|refine po ?_|fail)
 refine aW.ghost (Zco.renameC (b:=3) (c:=5) (o:=9005) (j:=700) (ej:=1) rfl rfl rfl rfl rfl rfl rfl rfl) ?_
 refine aW.ghost (Zco.renameC (b:=3) (c:=8) (o:=9008) (j:=703) (ej:=1) rfl rfl rfl rfl rfl rfl rfl rfl) ?_
 refine aW.ghost (Zco.renameC (b:=3) (c:=9) (o:=9009) (j:=704) (ej:=1) rfl rfl rfl rfl rfl rfl rfl rfl) ?_
 dsimp only [List.set]
 refine aW.loopF rfl (fun q:Wd×TS×List Sv×List Int×Nat×Nat×Nat×Nat=>[]) [(4,_),(3,_),(2,_),(1,_)] (fun q=>[(3,1,.box 40 [.t (.int .i64 p.me),.t (.int .i64 p.delay),.t (.int .i64 p.ahead),.t (.int .i64 p.seed),.hnd 9004 1,.hnd 700 q.2.2.2.2.1,.t (.int .i64 q.1.tick),.t (.int .i64 q.1.seed),.hnd 703 q.2.2.2.2.1,.hnd 704 q.2.2.2.2.1,.hnd 9010 1,.t (.int .i64 p.now.tick),.t (.int .i64 p.now.seed),.hnd 9013 1,.hnd 9014 1,.hnd 9015 q.2.2.2.2.2.1,.hnd 9016 q.2.2.2.2.2.2.1,.hnd 9017 q.2.2.2.2.2.2.2,.t (.int .i64 p.ft),.t (.int .i64 p.fp),.t (.int .i64 p.fa),.t (.int .i64 p.rolls),.t (.int .i64 p.again)]),(700,q.2.2.2.2.1,.row true true 9 (Zai q.1.level)),(703,q.2.2.2.2.1,.row true true 3 (Zak q.1.scores)),(704,q.2.2.2.2.1,.row true true 114 (q.1.bodies.map bodyC)),(9015,q.2.2.2.2.2.1,.row false true 27 (q.2.1.map trackC)),(9016,q.2.2.2.2.2.2.1,.row true true 100 (q.2.2.1.map saveC)),(9017,q.2.2.2.2.2.2.2,.row true true 3 (Zak q.2.2.2.1))]) [(1,_,_),(2,_,_),(9004,_,_),(9010,_,_),(9013,_,_),(9014,_,_)] (fun q=>v=Zki (p.now.tick - q.1.tick).toNat (Zqi p q.1 q.2.1 q.2.2.1 q.2.2.2.1)∧Zic (Zqi p q.1 q.2.1 q.2.2.1 q.2.2.2.1)∧Zc0 (Zqi p q.1 q.2.1 q.2.2.1 q.2.2.2.1)) (fun q=>(p.now.tick - q.1.tick).toNat) (p.base,p.used,p.saves,p.sums,1,1,1,1) ⟨hv,hpp,hd⟩ (by (exact plei)) ?_
 rintro ⟨b,us,sv,sm,e1,e2,e3,e4⟩ hI
 obtain ⟨hq,hqp,hqd⟩:v=Zki (p.now.tick - b.tick).toNat (Zqi p b us sv sm)∧Zic (Zqi p b us sv sm)∧Zc0 (Zqi p b us sv sm):=hI
 have hql:=Zp3 hqp
 have hfw:=ZqH (Zqi p b us sv sm) hql
 dsimp only [pcR] at hfw
 have hnc:=ZqS (Zqi p b us sv sm) hqp hql hqd _ rfl
 dsimp only [pcR] at hnc
 have hsl:(sv.map saveC).length=sv.length:=List.length_map _
 have hul:(us.map trackC).length=us.length:=List.length_map _
 have hml:=Zal sm
 have hse:(sv.length:Int)=p.now.tick - b.tick:=hqp.saves
 have hue:(us.length:Int)=p.now.tick - b.tick:=hqp.used
 have hme:(sm.length:Int)=b.tick + 1:=hqp.sums
 have hbt:0≤b.tick∧b.tick≤100000:=hqp.base.tick
 have hnt:=hpp.now.tick
 have hgo:ZqE (Zqi p b us sv sm)↔b.tick < p.now.tick∧b.tick < Zbe p.tracks∧ZdR (Zqi p b us sv sm) ≠ b.tick:=Iff.rfl
 generalize ZdR (Zqi p b us sv sm)=fw at hfw hgo
 refine pln ?_
 by_cases hg:ZqE (Zqi p b us sv sm)
 case neg =>
  rw [show (p.now.tick - b.tick).toNat=((Zqi p b us sv sm).now.tick - (Zqi p b us sv sm).base.tick).toNat from rfl,Zqu (Zrh hg)] at hq
  dsimp only [Zqi] at hq hfw hnc
  subst hq
  by_cases c1:b.tick < p.now.tick
  case neg =>
   repeat' (first|refine pa ?_|(refine pb ?_ ?_<;>intro hg)|refine po ?_|(refine T101d3 ?_)|fail)
   exact pfg
  by_cases c2:b.tick < Zbe p.tracks
  case neg =>
   repeat' (first|refine pa ?_|(refine pb ?_ ?_<;>intro hg)|refine po ?_|(refine T101d3 ?_)|fail)
   exact pfg
  have c3:fw=b.tick:=Classical.byContradiction fun c3=>hg (hgo.2 ⟨c1,c2,c3⟩)
  repeat' (first|refine pa ?_|(refine pb ?_ ?_<;>intro hg)|(refine z9 ?_;(refine Zaa hfw ?_))|refine po ?_|((apply pdq 22;(focus exact pdp);(focus (refine ZaC 0 ?_<;>refine ZaC 1 ?_<;>refine pt7_ 2 ?_<;>refine ZaC 3 ?_<;>refine ZaC 4 ?_<;>refine pt7_ 5 ?_<;>refine Zbh 6 ?_<;>refine pt0_ 7 ?_<;>(first|refine ZaK 8 ?_|(refine pt2 8 ?_ ?_<;>intro hg<;>(refine ZaK 8 ?_)))<;>(first|refine ZaK 9 ?_|(refine pt2 9 ?_ ?_<;>intro hg<;>(refine ZaK 9 ?_)))<;>(first|refine pg7_ 10 ?_|(refine pt2 10 ?_ ?_<;>intro hg<;>(refine pg7_ 10 ?_)))<;>(first|refine pg0_ 11 ?_|(refine pt2 11 ?_ ?_<;>intro hg<;>(refine pg0_ 11 ?_)))<;>(first|refine ZcA 12 ?_|(refine pt2 12 ?_ ?_<;>intro hg<;>(refine ZcA 12 ?_)))<;>refine pt2_ 13 ?_<;>refine pt0_ 14 ?_<;>(first|refine pg7_ 15 ?_|(refine pt2 15 ?_ ?_<;>intro hg<;>(refine pg7_ 15 ?_)))<;>(first|refine ZaK 17 ?_|(refine pt2 17 ?_ ?_<;>intro hg<;>(refine ZaK 17 ?_)))<;>(first|refine ZaK 18 ?_|(refine pt2 18 ?_ ?_<;>intro hg<;>(refine ZaK 18 ?_)))<;>(first|refine pg7_ 19 ?_|(refine pt2 19 ?_ ?_<;>intro hg<;>(refine pg7_ 19 ?_)))<;>(refine pq1 16 ?_)<;>(first|(refine pog ?_;(first|(refine z9 ?_;(refine Zaa hfw ?_))|refine pk20 ?_))|refine pon ?_|(refine po2 ?_ ?_<;>intro hg<;>(first|(refine pog ?_;(first|(refine z9 ?_;(refine Zaa hfw ?_))|refine pk20 ?_))|refine pon ?_)))<;>(first|refine ZcA 20 ?_|(refine pt2 20 ?_ ?_<;>intro hg<;>(refine ZcA 20 ?_)))<;>refine pt2_ 21 ?_<;>(refine ZaI ?_;exact ZaJ)))))|fail)
  exact pfg
 obtain ⟨c1,c2,c3⟩:=hgo.1 hg
 cases hn:ZqN (Zqi p b us sv sm) with
 | none =>
  rw [show (p.now.tick - b.tick).toNat=((Zqi p b us sv sm).now.tick - (Zqi p b us sv sm).base.tick).toNat from rfl,Zqu (ZqL hg hn)] at hq
  rw [hn] at hnc
  dsimp only [Zqi,Option.getD_none,Option.isSome_none] at hq hfw hnc
  subst hq
  repeat' (first|refine pa ?_|(refine pb ?_ ?_<;>intro hg)|(refine z9 ?_;(first|refine Zaa hfw ?_|refine pz3 hnc ?_))|refine po ?_|((apply pdq 22;(focus exact pdp);(focus (refine ZaC 0 ?_<;>refine ZaC 1 ?_<;>refine pt7_ 2 ?_<;>refine ZaC 3 ?_<;>refine ZaC 4 ?_<;>refine pt7_ 5 ?_<;>refine Zbh 6 ?_<;>refine pt0_ 7 ?_<;>(first|refine ZaK 8 ?_|(refine pt2 8 ?_ ?_<;>intro hg<;>(refine ZaK 8 ?_)))<;>(first|refine ZaK 9 ?_|(refine pt2 9 ?_ ?_<;>intro hg<;>(refine ZaK 9 ?_)))<;>(first|refine pg7_ 10 ?_|(refine pt2 10 ?_ ?_<;>intro hg<;>(refine pg7_ 10 ?_)))<;>(first|refine pg0_ 11 ?_|(refine pt2 11 ?_ ?_<;>intro hg<;>(refine pg0_ 11 ?_)))<;>(first|refine ZcA 12 ?_|(refine pt2 12 ?_ ?_<;>intro hg<;>(refine ZcA 12 ?_)))<;>refine pt2_ 13 ?_<;>refine pt0_ 14 ?_<;>(first|refine pg7_ 15 ?_|(refine pt2 15 ?_ ?_<;>intro hg<;>(refine pg7_ 15 ?_)))<;>(first|refine ZaK 17 ?_|(refine pt2 17 ?_ ?_<;>intro hg<;>(refine ZaK 17 ?_)))<;>(first|refine ZaK 18 ?_|(refine pt2 18 ?_ ?_<;>intro hg<;>(refine ZaK 18 ?_)))<;>(first|refine pg7_ 19 ?_|(refine pt2 19 ?_ ?_<;>intro hg<;>(refine pg7_ 19 ?_)))<;>(refine pq1 16 ?_)<;>(first|(refine pog ?_;(first|(refine z9 ?_;(first|refine Zaa hfw ?_|refine pz3 hnc ?_))|refine pk20 ?_))|refine pon ?_|(refine po2 ?_ ?_<;>intro hg<;>(first|(refine pog ?_;(first|(refine z9 ?_;(first|refine Zaa hfw ?_|refine pz3 hnc ?_))|refine pk20 ?_))|refine pon ?_)))<;>(first|refine ZcA 20 ?_|(refine pt2 20 ?_ ?_<;>intro hg<;>(refine ZcA 20 ?_)))<;>refine pt2_ 21 ?_<;>(refine ZaI ?_;exact ZaJ)))))|fail)
  exact pfg
 | some w =>
  have hstep:=ZqD hqp (Zql hg hn)
  obtain ⟨hrp,hrt,_,_,_⟩:=Zqp hqp (Zql hg hn)
  have hrd:=ZqV hqd w
  rw [ZqJ] at hstep hrp hrt hrd
  have hwt:w.tick=b.tick + 1:=hrt
  replace hq:=hq.trans hstep
  rw [hn] at hnc
  dsimp only [Zqi,Option.getD_some,Option.isSome_some] at hfw hnc
  have hws:=Zrx w
  have hwb:=Zii w
  have hdt:=Zqs (Zbp w) (Zbp w) (by have:=ZgG (w:=w);omega)
  generalize hwse:Zgm w=ws at hws
  generalize hwbe:Zbp w=wb at hwb hdt
  generalize hdte:Zkl wb wb=dt at hdt
  repeat' (first|(refine pth ?_)|((fail_if_success (with_reducible first|refine pA1 12 ?_|refine pA2 12 ?_|refine pA3 12 ?_));(first|refine pc ?_|(refine pbc ?_ ?_<;>intro hg)))|(first|refine pl ?_|(refine pbl ?_ ?_<;>intro hg))|(first|refine ZaX ?_|refine ZkW ?_|(refine z9 ?_;(first|refine Zaa hfw ?_|refine Zaa hws ?_|refine pz3 hnc ?_))|refine po ?_)|((apply pdq 22;(focus exact pdp);(focus (refine ZaC 0 ?_<;>refine ZaC 1 ?_<;>refine pt7_ 2 ?_<;>refine ZaC 3 ?_<;>refine ZaC 4 ?_<;>refine pt7_ 5 ?_<;>refine Zbh 6 ?_<;>refine pt0_ 7 ?_<;>(first|refine ZaK 8 ?_|(refine pt2 8 ?_ ?_<;>intro hg<;>(refine ZaK 8 ?_)))<;>(first|refine ZaK 9 ?_|(refine pt2 9 ?_ ?_<;>intro hg<;>(refine ZaK 9 ?_)))<;>(first|refine pg7_ 10 ?_|(refine pt2 10 ?_ ?_<;>intro hg<;>(refine pg7_ 10 ?_)))<;>(first|refine pg0_ 11 ?_|(refine pt2 11 ?_ ?_<;>intro hg<;>(refine pg0_ 11 ?_)))<;>(first|refine ZcA 12 ?_|(refine pt2 12 ?_ ?_<;>intro hg<;>(refine ZcA 12 ?_)))<;>refine pt2_ 13 ?_<;>refine pt0_ 14 ?_<;>(first|refine pg7_ 15 ?_|(refine pt2 15 ?_ ?_<;>intro hg<;>(refine pg7_ 15 ?_)))<;>(first|refine ZaK 17 ?_|(refine pt2 17 ?_ ?_<;>intro hg<;>(refine ZaK 17 ?_)))<;>(first|refine ZaK 18 ?_|(refine pt2 18 ?_ ?_<;>intro hg<;>(refine ZaK 18 ?_)))<;>(first|refine pg7_ 19 ?_|(refine pt2 19 ?_ ?_<;>intro hg<;>(refine pg7_ 19 ?_)))<;>(refine pq1 16 ?_)<;>(first|(refine pog ?_;(first|(refine z9 ?_;(first|refine Zaa hfw ?_|refine Zaa hws ?_|refine pz3 hnc ?_))|refine pk20 ?_))|refine pon ?_|(refine po2 ?_ ?_<;>intro hg<;>(first|(refine pog ?_;(first|(refine z9 ?_;(first|refine Zaa hfw ?_|refine Zaa hws ?_|refine pz3 hnc ?_))|refine pk20 ?_))|refine pon ?_)))<;>(first|refine ZcA 20 ?_|(refine pt2 20 ?_ ?_<;>intro hg<;>(refine ZcA 20 ?_)))<;>refine pt2_ 21 ?_<;>(refine ZaI ?_;exact ZaJ)))))|(refine pdr [5] 8 (by (apply pct 8 255 0;(focus (intro hd7;(apply pct 8 63 2;(focus (intro hd6;(apply pct 8 31 3;(focus (intro hd5;(apply pct 8 29 4;(focus (intro hd4;(apply pct 8 15 4;(focus (intro hd3;(apply pct 8 13 5;(focus (intro hd2;(apply pct 8 7 5;(focus (intro hd1;(refine ZaC 0 ?_<;>refine pt7_ 2 ?_<;>(refine pq2 1 3 ?_ ?_;(focus ((refine pop ?_;refine pk7 ?_)<;>(exact ptm hd1)));(focus ((refine pop ?_;(refine z9 ?_;(refine Zaa hws ?_)))<;>(exact ptm hd2)))))));(case main=>((refine pq1 3 ?_;(focus ((refine pop ?_;(refine z9 ?_;(refine Zaa hws ?_)))<;>(exact ptm hd3)))))))));(case main=>((refine pq2 1 4 ?_ ?_;(focus ((refine pop ?_;refine pk7 ?_)<;>(exact ptw hd3)));(focus ((refine pop ?_;(first|refine ZaX ?_|refine pk6 ?_))<;>(exact ptm hd4)))))))));(case main=>((refine pq1 4 ?_;(focus ((refine pop ?_;(first|refine ZaX ?_|refine pk6 ?_))<;>(exact ptm hd5)))))))));(case main=>((refine pq1 1 ?_;(focus ((refine pop ?_;refine pk7 ?_)<;>(exact ptw hd5)))))))));(case main=>((refine pq1 5 ?_;(focus ((refine pop ?_;refine pk20 ?_)<;>(exact ptm hd6)))))))));(case main=>(refine ZaC 6 ?_<;>(refine pq1 7 ?_;(focus ((refine pop ?_;refine pk8 ?_)<;>(exact ptm hd7)))))))));(case main=>((refine ZaI ?_;exact ZaJ))))) ?_)|fail)
  rw [ZqU us rfl,ZqU sv rfl]
  have hsd:(sv.drop 1).length=sv.length - 1:=List.length_drop
  cases hs1:sv.drop 1 with
  | nil =>
   rw [hs1] at hsd hq hrp hrd
   refine aW.ghost (Zco.renameC (b:=3) (c:=5) (o:=1000 * 41) (j:=700) rfl rfl rfl rfl rfl rfl rfl rfl) ?_
   refine aW.ghost (Zco.renameC (b:=3) (c:=8) (o:=1000 * 41 + 1 + 1 + 1) (j:=703) rfl rfl rfl rfl rfl rfl rfl rfl) ?_
   refine aW.ghost (Zco.renameC (b:=3) (c:=9) (o:=1000 * 41 + 1 + 1 + 1 + 1) (j:=704) rfl rfl rfl rfl rfl rfl rfl rfl) ?_
   dsimp only [List.set]
   repeat' (first|refine pa ?_|(refine pb ?_ ?_<;>intro hg)|refine po ?_|fail)
   exact ⟨(w,us.drop 1,[],sm++[ws],_,_,_,_),⟨by rw [← hwse];exact hq,by rw [← hwse];exact hrp,by rw [← hwse];exact hrd⟩,by show (p.now.tick - w.tick).toNat < (p.now.tick - b.tick).toNat;omega,by rw [Zky];(exact ple)⟩
  | cons s r =>
   rw [hs1] at hsd hq hrp hrd
   have hfx:ZpL w (s :: r)=(s.1,dt) :: r:=by rw [← hdte,← hwbe];rfl
   rw [hfx] at hq hrp hrd
   have hcl:(List.map saveC (s :: r)).length=r.length + 1:=by rw [List.length_map];rfl
   have hcl2:(s :: r).length=r.length + 1:=rfl
   repeat' (first|(refine pth ?_)|((fail_if_success (with_reducible first|refine pA1 14 ?_|refine pA2 14 ?_|refine pA3 14 ?_));(first|refine pc ?_|(refine pbc ?_ ?_<;>intro hg)))|(first|refine pl ?_|(refine pbl ?_ ?_<;>intro hg))|(first|(refine z9 ?_;(refine Zaa hwb ?_))|refine po ?_)|fail)
   refine aW.ghost (Zco.renameC (b:=3) (c:=5) (o:=1000 * 41) (j:=700) rfl rfl rfl rfl rfl rfl rfl rfl) ?_
   refine aW.ghost (Zco.renameC (b:=3) (c:=8) (o:=1000 * 41 + 1 + 1 + 1) (j:=703) rfl rfl rfl rfl rfl rfl rfl rfl) ?_
   refine aW.ghost (Zco.renameC (b:=3) (c:=9) (o:=1000 * 41 + 1 + 1 + 1 + 1) (j:=704) rfl rfl rfl rfl rfl rfl rfl rfl) ?_
   dsimp only [List.set]
   repeat' (first|refine pa ?_|(refine pb ?_ ?_<;>intro hg)|(refine z9 ?_;(refine Zaa hdt ?_))|refine po ?_|(refine Zqw ?_)|fail)
   exact ⟨(w,us.drop 1,(s.1,dt) :: r,sm++[ws],_,_,_,_),⟨by rw [← hwse];exact hq,by rw [← hwse];exact hrp,by rw [← hwse];exact hrd⟩,by show (p.now.tick - w.tick).toNat < (p.now.tick - b.tick).toNat;omega,by rw [Zky];(exact ple)⟩
theorem Zvp {p:Pr} (h:Zic p) (hr:Zst p):p.used=Zbr p.tracks p.base.tick p.used.length:=by
 refine List.ext_getElem (Zdk _ _ _).symm fun k h1 h2=>?_
 have e1:p.used[k]=p.used.getD k default:=(Zb6 h1).symm
 have e2:(Zbr p.tracks p.base.tick p.used.length)[k]=(Zbr p.tracks p.base.tick p.used.length).getD k default:=by rw [List.getD_eq_getElem?_getD,List.getElem?_eq_getElem h2];rfl
 rw [e1,e2,ZgF h1]
 exact hr k h1
open Go.RowKit Ab
theorem Zvq {P:Program} {e:TypeId} {xs:List Int} (h:RdT P (.lst true e (Zsm xs))):xs.length≤9223372036854775807∧∀ k,k < xs.length→0≤xs.getD k default∧xs.getD k default≤255:=by
 obtain ⟨h1,h2,h3⟩:=ZhS h
 refine ⟨by simpa [Zsm] using h1,fun k hk=>?_⟩
 have hu:∀ x ∈ Zsm xs,x.length=1:=fun x hx=>by obtain ⟨p,_,rfl⟩:=List.mem_map.1 hx;rfl
 have h4:=Zb0 hu (i:=k) (j:=0) (by simpa [Zsm] using hk) (by omega)
 have h5:(Zsm xs).getD k []=[T.int .u8 (xs.getD k default)]:=getD_map hk
 rw [h5] at h4
 obtain ⟨w,B,u,hr⟩:=h3 _ _ h4
 cases hr with
 | int hw =>
  simp only [Lit.wf,Bool.and_eq_true,decide_eq_true_eq] at hw
  exact hw
def atV (xs:List Int) (i:Int):Int:=if xs.length=0 then 0 else xs.getD ((i * 5 + 1) % xs.length).toNat default
theorem Zwd {xs:List Int} (h:∀ k,k < xs.length→0≤xs.getD k default∧xs.getD k default≤255) (i:Int):0≤atV xs i∧atV xs i≤255:=by
 unfold atV
 split
 ·omega
 ·rename_i h0
  have h1:0≤(i * 5 + 1) % (xs.length:Int):=Int.emod_nonneg _ (by omega)
  have h2:(i * 5 + 1) % (xs.length:Int) < xs.length:=Int.emod_lt_of_pos _ (by omega)
  exact h _ (by omega)
theorem ZvF (xs:List Int) (i:Int) (hi:0≤i∧i≤1000000):AC Tryz.prog 16 [.t (.lst true 5 (Zsm xs)),.t (.int .i64 i)] (.t (.int .i64 (atV xs i))):=by
 refine AC.go Tryz.func16 Tryz.ntmps16 fun B W hr=>?_
 obtain ⟨us,hus⟩:=hr
 obtain ⟨hl,hb⟩:=Zvq (ZaR hus (i:=0) rfl)
 clear hus
 have hel:(Zsm xs).length=xs.length:=List.length_map _
 by_cases h0:xs.length=0
 ·rw [show atV xs i=0 from if_pos h0]
  repeat' (first|refine pa ?_|(refine pb ?_ ?_<;>intro hg)|refine po ?_|fail)
  all_goals first
   | (refine pfin ?_;exact .inl rfl)
   | (exfalso;omega)
 ·rw [show atV xs i=xs.getD ((i * 5 + 1) % xs.length).toNat default from if_neg h0]
  have h1:0≤(i * 5 + 1) % (xs.length:Int):=Int.emod_nonneg _ (by omega)
  have h2:(i * 5 + 1) % (xs.length:Int) < xs.length:=Int.emod_lt_of_pos _ (by omega)
  have ht:(i * 5 + 1).tmod (xs.length:Int)=(i * 5 + 1) % xs.length:=Int.tmod_eq_emod_of_nonneg (by omega)
  obtain ⟨m,hm⟩:=Int.eq_ofNat_of_zero_le h1
  have hml:m < xs.length:=by omega
  have hbm:=hb m hml
  repeat' (first|refine pa ?_|(refine pb ?_ ?_<;>intro hg)|refine po ?_|fail)
  all_goals try (exfalso;omega)
  have hget:(Zsm xs).getD ((i * 5 + 1).tmod (xs.length:Int)).toNat []=[T.int .u8 (xs.getD m default)]:=by
   rw [ht,hm,Int.toNat_natCast]
   exact getD_map hml
  refine OpS.load_rptr (cs:=[T.int .u8 (xs.getD m default)]) (off:=0) rfl (congrArg (fun c=>V.rptr c 0) hget) (Tryz.ti rfl) rfl ?_
  repeat' (first|refine pa ?_|(refine pb ?_ ?_<;>intro hg)|refine po ?_|fail)
  refine pfin ?_
  refine .inl (congrArg (T.int .i64) ?_)
  rw [hm,Int.toNat_natCast]
  exact wrap_i64 (by omega)
theorem Zsu (p:Pr) (x:PkV) (hp:Zeq p) (hd:Zc0 p) (v:Pr) (hv:v=(Zsj p x).getD p):AC Tryz.prog 55 [.agg (pcR p),.agg [.t (.int .i64 x.fr),.t (.int .i64 x.tk),.t (.int .i64 x.fs),.t (ints 3 x.ins),.t (ints 3 x.acks),.t (.int .i64 x.stk),.t (.int .i64 x.sm),.t (.int .i64 x.tm),.t (.int .i64 x.ec)]] (.tup [.agg (pcF v),.t (.bool (Zsj p x).isSome)]):=by
 have hpo:=Zgt p hp.tracks.1
 dsimp only [pcR] at hpo
 have hcp:=ZlR p hp
 dsimp only [pcR,pcF] at hcp
 by_cases h1:Zb9 p=true
 case neg =>
  rw [Ztz fun e=>h1 e.1] at hv ⊢
  rw [Bool.not_eq_true] at h1
  rw [h1] at hpo
  dsimp only [Option.getD_none,Option.isSome_none] at hv ⊢
  subst hv
  refine AC.go Tryz.func55 Tryz.ntmps55 fun B W hr=>?_
  dsimp only [pcR,pcF]
  repeat' (first|refine pa ?_|(refine pb ?_ ?_<;>intro hg)|(refine z9 ?_;(first|refine Zaa hpo ?_|refine pz3 hcp ?_))|refine po ?_|fail)
  exact pfg
 rw [h1] at hpo
 by_cases h2:x.fr=p.me
 ·rw [Ztz fun e=>e.2.1 h2] at hv ⊢
  dsimp only [Option.getD_none,Option.isSome_none] at hv ⊢
  subst hv
  refine AC.go Tryz.func55 Tryz.ntmps55 fun B W hr=>?_
  dsimp only [pcR,pcF]
  repeat' (first|refine pa ?_|(refine pb ?_ ?_<;>intro hg)|(refine z9 ?_;(first|refine Zaa hpo ?_|refine pz3 hcp ?_))|refine po ?_|fail)
  exact pfg
 have htk:=Zth p.tracks x.fr x.tk x.fs x.stk x.sm x.tm x.ec x.ins x.acks hp.tracks.1 hp.tracks.2
 rw [show ZtB p.tracks x.fr x.tk x.fs x.ins x.acks x.stk x.sm x.tm x.ec=Zsk p x from rfl] at htk
 by_cases h3:(Zsk p x).2=true
 case neg =>
  rw [Ztz fun e=>h3 e.2.2] at hv ⊢
  rw [Bool.not_eq_true] at h3
  rw [h3] at htk
  dsimp only [Option.getD_none,Option.isSome_none] at hv ⊢
  subst hv
  refine AC.go Tryz.func55 Tryz.ntmps55 fun B W hr=>?_
  dsimp only [pcR,pcF]
  repeat' (first|refine pa ?_|(refine pb ?_ ?_<;>intro hg)|(refine z9 ?_;(first|refine Zaa hpo ?_|refine pz3 hcp ?_|refine pz3 htk ?_))|refine po ?_|fail)
  exact pfg
 have h4:=Ztb (Zbq.1 h1) h3
 have hle:=Zbi h4.2.1
 have hl2:Zeq { p with tracks:=(Zsk p x).1 }:=⟨⟨by show (Zsk p x).1.length≤1048576;omega,fun k hk=>by
  have:=Zei (ZfG h4.2.1 hk)
  show ((Zsk p x).1.getD k default).length≤1048576
  omega⟩,hp.base,hp.now,hp.used,hp.saves,hp.sums⟩
 rw [ZuK ⟨h1,h2,h3⟩] at hv ⊢
 rw [h3] at htk
 generalize (Zsk p x).1=ts at htk hl2 hv ⊢
 have hrp:=ZrN { p with tracks:=ts } hl2 hd _ rfl
 dsimp only [pcR,pcF] at hrp
 cases hr:Zqk { p with tracks:=ts } with
 | none =>
  rw [hr] at hv hrp
  dsimp only [Option.getD_none,Option.isSome_none,Option.map_none] at hv hrp ⊢
  subst hv
  refine AC.go Tryz.func55 Tryz.ntmps55 fun B W hr=>?_
  dsimp only [pcR,pcF]
  repeat' (first|refine pa ?_|(refine pb ?_ ?_<;>intro hg)|(refine z9 ?_;(first|refine Zaa hpo ?_|refine pz3 hcp ?_|refine pz3 htk ?_|refine pz3 hrp ?_))|refine po ?_|fail)
  exact pfg
 | some q =>
  have hcf:=ZrH q (Zt3 hl2 hr) (Zs9 (p:={ p with tracks:=ts }) hd hr) _ rfl
  dsimp only [pcR,pcF] at hcf
  rw [hr] at hv hrp
  dsimp only [Option.getD_some,Option.isSome_some,Option.map_some] at hv hrp ⊢
  rw [← hv] at hcf
  refine AC.go Tryz.func55 Tryz.ntmps55 fun B W hr=>?_
  dsimp only [pcR,pcF]
  repeat' (first|refine pa ?_|(refine pb ?_ ?_<;>intro hg)|(refine z9 ?_;(first|refine Zaa hpo ?_|refine pz3 hcp ?_|refine pz3 htk ?_|refine pz3 hrp ?_|refine pz3 hcf ?_))|refine po ?_|fail)
  exact pfg
theorem Zvu {w0:Wd} {p q:Pr} (h:Good w0 p) (k:Good w0 q) (hr:Zst p) (kr:Zst q) (ht:q.tracks=p.tracks) (hf:q.ft=p.ft∧q.fp=p.fp∧q.fa=p.fa) (hb:q.base.tick=p.base.tick) (hn:q.now.tick=p.now.tick):q.base=p.base∧q.now=p.now∧q.sums=p.sums:=by
 have u1:=h.ok.used
 have u2:=k.ok.used
 have s1:=h.ok.sums
 have s2:=k.ok.sums
 have e1:q.base=p.base:=by
  rw [h.base,k.base,ht,hf.1,hf.2.1,hf.2.2,hb]
 have e2:q.used=p.used:=by
  rw [Zvp h.ok hr,Zvp k.ok kr,ht,e1,show q.used.length=p.used.length by omega]
 refine ⟨e1,by rw [h.now,k.now,e1,e2,hf.1,hf.2.1,hf.2.2],?_⟩
 refine List.ext_getElem (by omega) fun i h1 h2=>?_
 have g1:=k.sums i h1
 have g2:=h.sums i h2
 rw [ht,hf.1,hf.2.1,hf.2.2,← g2,List.getD_eq_getElem?_getD,List.getD_eq_getElem?_getD,List.getElem?_eq_getElem h1,List.getElem?_eq_getElem h2] at g1
 exact g1
theorem ZvK {p:Pr} {x:PkV} {m:Nat} {t s:List Int} (hp:Zic p) (hm:m < p.tracks.length) (ht:p.tracks.getD m default=t++s) (hx:x.fr=m) (hfs:x.fs=t.length) (hacks:x.acks=List.replicate p.tracks.length 0) (hin:∀ y ∈ x.ins,0≤y∧y≤15) (hlen:x.ins.length≤40∧t.length + x.ins.length≤400) (hz:x.tk=0∧x.stk=0∧x.sm=0∧x.tm=0∧x.ec=0)
  (hs:∀ k,k < s.length→k < x.ins.length→s.getD k 0=x.ins.getD k 0):(Zsk p x).2=true∧(Zsk p x).1=p.tracks.set m (t++s++x.ins.drop s.length):=by
 have htl:=Zbi hp.tracks
 have hto:=ZfG hp.tracks hm
 have hfm:x.fr.toNat=m:=by rw [hx];rfl
 have hpk:ZhP x.fr x.tk x.fs x.ins x.acks x.stk x.sm x.tm x.ec=true:=by
  have ha:ZsB x.acks=true:=by
   rw [hacks]
   unfold ZsB
   rw [List.all_eq_true]
   intro y hy
   rw [List.eq_of_mem_replicate hy]
   decide
  have hi:Zbl x.ins=true:=by
   unfold Zbl
   rw [List.all_eq_true]
   exact fun y hy=>Zae.2 (hin y hy)
  have hal:x.acks.length=p.tracks.length:=by rw [hacks];exact List.length_replicate
  unfold ZhP
  rw [ha,hi,hz.1,hz.2.1,hz.2.2.1,hz.2.2.2.1,hz.2.2.2.2,hal,hx,hfs]
  rw [Zae.2 (show (1:Int)≤(p.tracks.length:Int)∧(p.tracks.length:Int)≤4 by omega),Zae.2 (show (0:Int)≤(m:Int)∧(m:Int)≤(p.tracks.length:Int) - 1 by omega),decide_eq_true (show x.ins.length≤40 from hlen.1),Zae.2 (show (0:Int)≤(t.length:Int)∧(t.length:Int)≤400 - (x.ins.length:Int) by omega)]
  decide
 have hao:Ztj (p.tracks.getD m default) x.fs x.ins=true:=by
  unfold Ztj
  rw [hto,hfs,decide_eq_true (show (0:Int)≤(t.length:Int)∧(t.length:Int)≤((p.tracks.getD m default).length:Int) by rw [ht,List.length_append];omega),decide_eq_true (show (x.ins.length:Int)≤400 - (t.length:Int) by omega)]
  have hi:Zbl x.ins=true:=by
   unfold Zbl
   rw [List.all_eq_true]
   exact fun y hy=>Zae.2 (hin y hy)
  rw [hi]
  show Zsq (p.tracks.getD m default) ((t.length:Nat):Int).toNat x.ins=true
  unfold Zsq
  refine decide_eq_true fun k hk hk2=>?_
  rw [ht,List.length_append,Int.toNat_natCast] at hk2
  rw [ht,Int.toNat_natCast,List.getD_eq_getElem?_getD,List.getElem?_append_right (by omega),show t.length + k - t.length=k by omega,← List.getD_eq_getElem?_getD]
  exact hs k (by omega) hk
 unfold Zsk ZtB Zka
 rw [hfm,if_pos ⟨hp.tracks,hpk,by rw [hacks];exact List.length_replicate⟩,if_pos hao,if_pos rfl]
 refine ⟨rfl,?_⟩
 show p.tracks.set m (Zsl (p.tracks.getD m default) x.fs.toNat x.ins)=_
 unfold Zsl
 rw [ht,hfs,Int.toNat_natCast,List.length_append,show t.length + s.length - t.length=s.length by omega]
open Go.RowKit Ab
theorem ZvZ {zs:List Int} {y:Int} (h:in15 zs) (hy:0≤y∧y≤15):in15 (zs++[y]):=fun z hz=>by
 rcases List.mem_append.1 hz with hz|hz
 ·exact h z hz
 ·rw [List.mem_singleton.1 hz];exact hy
theorem Zvi (p:Pr) (x:PkV) (hp:Zeq p) (hd:Zc0 p) (v:Pr) (hv:v=(Zsj p x).getD p):AC Tryz.prog 20 [.agg (pcR p),.agg [.t (.int .i64 x.fr),.t (.int .i64 x.tk),.t (.int .i64 x.fs),.t (ints 3 x.ins),.t (ints 3 x.acks),.t (.int .i64 x.stk),.t (.int .i64 x.sm),.t (.int .i64 x.tm),.t (.int .i64 x.ec)]] (.tup [.agg (pcF v),.t (.bool (Zsj p x).isSome)]):=by
 have hpo:=Zgp p hp.tracks.1
 dsimp only [pcR] at hpo
 have hcp:=ZjY p hp
 dsimp only [pcR,pcF] at hcp
 by_cases h1:Zb9 p=true
 case neg =>
  rw [Ztz fun e=>h1 e.1] at hv ⊢
  rw [Bool.not_eq_true] at h1
  rw [h1] at hpo
  dsimp only [Option.getD_none,Option.isSome_none] at hv ⊢
  subst hv
  refine AC.go Tryz.func20 Tryz.ntmps20 fun B W hr=>?_
  dsimp only [pcR,pcF]
  repeat' (first|refine pa ?_|(refine pb ?_ ?_<;>intro hg)|(refine z9 ?_;(first|refine Zaa hpo ?_|refine pz3 hcp ?_))|refine po ?_|fail)
  exact pfg
 rw [h1] at hpo
 by_cases h2:x.fr=p.me
 ·rw [Ztz fun e=>e.2.1 h2] at hv ⊢
  dsimp only [Option.getD_none,Option.isSome_none] at hv ⊢
  subst hv
  refine AC.go Tryz.func20 Tryz.ntmps20 fun B W hr=>?_
  dsimp only [pcR,pcF]
  repeat' (first|refine pa ?_|(refine pb ?_ ?_<;>intro hg)|(refine z9 ?_;(first|refine Zaa hpo ?_|refine pz3 hcp ?_))|refine po ?_|fail)
  exact pfg
 have htk:=Zu9 p.tracks x.fr x.tk x.fs x.stk x.sm x.tm x.ec x.ins x.acks hp.tracks.1 hp.tracks.2
 rw [show ZtB p.tracks x.fr x.tk x.fs x.ins x.acks x.stk x.sm x.tm x.ec=Zsk p x from rfl] at htk
 by_cases h3:(Zsk p x).2=true
 case neg =>
  rw [Ztz fun e=>h3 e.2.2] at hv ⊢
  rw [Bool.not_eq_true] at h3
  rw [h3] at htk
  dsimp only [Option.getD_none,Option.isSome_none] at hv ⊢
  subst hv
  refine AC.go Tryz.func20 Tryz.ntmps20 fun B W hr=>?_
  dsimp only [pcR,pcF]
  repeat' (first|refine pa ?_|(refine pb ?_ ?_<;>intro hg)|(refine z9 ?_;(first|refine Zaa hpo ?_|refine pz3 hcp ?_|refine pz3 htk ?_))|refine po ?_|fail)
  exact pfg
 have h4:=Ztb (Zbq.1 h1) h3
 have hle:=Zbi h4.2.1
 have hl2:Zeq { p with tracks:=(Zsk p x).1 }:=⟨⟨by show (Zsk p x).1.length≤1048576;omega,fun k hk=>by
  have:=Zei (ZfG h4.2.1 hk)
  show ((Zsk p x).1.getD k default).length≤1048576
  omega⟩,hp.base,hp.now,hp.used,hp.saves,hp.sums⟩
 rw [ZuK ⟨h1,h2,h3⟩] at hv ⊢
 rw [h3] at htk
 generalize (Zsk p x).1=ts at htk hl2 hv ⊢
 have hrp:=ZrM { p with tracks:=ts } hl2 hd _ rfl
 dsimp only [pcR,pcF] at hrp
 cases hr:Zqk { p with tracks:=ts } with
 | none =>
  rw [hr] at hv hrp
  dsimp only [Option.getD_none,Option.isSome_none,Option.map_none] at hv hrp ⊢
  subst hv
  refine AC.go Tryz.func20 Tryz.ntmps20 fun B W hr=>?_
  dsimp only [pcR,pcF]
  repeat' (first|refine pa ?_|(refine pb ?_ ?_<;>intro hg)|(refine z9 ?_;(first|refine Zaa hpo ?_|refine pz3 hcp ?_|refine pz3 htk ?_|refine pz3 hrp ?_))|refine po ?_|fail)
  exact pfg
 | some q =>
  have hcf:=ZrG q (Zt3 hl2 hr) (Zs9 (p:={ p with tracks:=ts }) hd hr) _ rfl
  dsimp only [pcR,pcF] at hcf
  rw [hr] at hv hrp
  dsimp only [Option.getD_some,Option.isSome_some,Option.map_some] at hv hrp ⊢
  rw [← hv] at hcf
  refine AC.go Tryz.func20 Tryz.ntmps20 fun B W hr=>?_
  dsimp only [pcR,pcF]
  repeat' (first|refine pa ?_|(refine pb ?_ ?_<;>intro hg)|(refine z9 ?_;(first|refine Zaa hpo ?_|refine pz3 hcp ?_|refine pz3 htk ?_|refine pz3 hrp ?_|refine pz3 hcf ?_))|refine po ?_|fail)
  exact pfg
end Go.Proofs.YthfaongbpdnlnaaGreat
