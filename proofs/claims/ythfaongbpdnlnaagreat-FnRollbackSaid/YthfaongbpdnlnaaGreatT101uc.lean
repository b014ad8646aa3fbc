/- What is proved: contracts on confirming what is known, program and reference alike.
   Conditions: the peer's lists and differences can be walked. -/
import Derived.Test.YthfaongbpdnlnaaGreatT88uc
import Derived.Test.YthfaongbpdnlnaaGreatT96ub
namespace Go.Proofs.YthfaongbpdnlnaaGreat
set_option maxHeartbeats 4000000
set_option maxRecDepth 20000
set_option linter.unusedSimpArgs false
set_option linter.unusedVariables false
open Go.RowKit Ab
theorem T101d3 {X Y:Prop} (h:Y) (r:Hld Y→X:=by intro h;(apply pdq 22;(focus exact pdp);(focus (refine ZaC 0 ?_<;>refine ZaC 1 ?_<;>refine pt7_ 2 ?_<;>refine ZaC 3 ?_<;>refine ZaC 4 ?_<;>refine pt7_ 5 ?_<;>refine Zbh 6 ?_<;>refine pt0_ 7 ?_<;>(first|refine ZaK 8 ?_|(refine pt2 8 ?_ ?_<;>intro hg<;>(refine ZaK 8 ?_)))<;>(first|refine ZaK 9 ?_|(refine pt2 9 ?_ ?_<;>intro hg<;>(refine ZaK 9 ?_)))<;>(first|refine pg7_ 10 ?_|(refine pt2 10 ?_ ?_<;>intro hg<;>(refine pg7_ 10 ?_)))<;>(first|refine pg0_ 11 ?_|(refine pt2 11 ?_ ?_<;>intro hg<;>(refine pg0_ 11 ?_)))<;>(first|refine ZcA 12 ?_|(refine pt2 12 ?_ ?_<;>intro hg<;>(refine ZcA 12 ?_)))<;>refine pt2_ 13 ?_<;>refine pt0_ 14 ?_<;>(first|refine pg7_ 15 ?_|(refine pt2 15 ?_ ?_<;>intro hg<;>(refine pg7_ 15 ?_)))<;>(first|refine ZaK 17 ?_|(refine pt2 17 ?_ ?_<;>intro hg<;>(refine ZaK 17 ?_)))<;>(first|refine ZaK 18 ?_|(refine pt2 18 ?_ ?_<;>intro hg<;>(refine ZaK 18 ?_)))<;>(first|refine pg7_ 19 ?_|(refine pt2 19 ?_ ?_<;>intro hg<;>(refine pg7_ 19 ?_)))<;>(refine pq1 16 ?_)<;>(first|(refine pog ?_;refine pk20 ?_)|refine pon ?_|(refine po2 ?_ ?_<;>intro hg<;>(first|(refine pog ?_;refine pk20 ?_)|refine pon ?_)))<;>(first|refine ZcA 20 ?_|(refine pt2 20 ?_ ?_<;>intro hg<;>(refine ZcA 20 ?_)))<;>refine pt2_ 21 ?_<;>(refine ZaI ?_;exact ZaJ))));exact h.out):X:=r ⟨h⟩
theorem ZqS (p:Pr) (hpp:Zic p) (hp:Zeq p) (hd:Zc0 p) (v:Wd) (hv:v=(ZqN p).getD ZcB):AC Tryz.prog 75 [.agg [.t (.int .i64 p.me),.t (.int .i64 p.delay),.t (.int .i64 p.ahead),.t (.int .i64 p.seed),.t (.lst false 46 (p.tracks.map trackC)),.t (.lst true 9 (Zai p.base.level)),.t (.int .i64 p.base.tick),.t (.int .i64 p.base.seed),.t (ints 3 p.base.scores),.t (.lst true 114 (p.base.bodies.map bodyC)),.t (.lst true 9 (Zai p.now.level)),.t (.int .i64 p.now.tick),.t (.int .i64 p.now.seed),.t (ints 3 p.now.scores),.t (.lst true 114 (p.now.bodies.map bodyC)),.t (.lst false 27 (p.used.map trackC)),.t (.lst true 100 (p.saves.map saveC)),.t (ints 3 p.sums),.t (.int .i64 p.ft),.t (.int .i64 p.fp),.t (.int .i64 p.fa),.t (.int .i64 p.rolls),.t (.int .i64 p.again)]] (.tup [.agg [.fr true 9 (Zai v.level),.t (.int .i64 v.tick),.t (.int .i64 v.seed),.fr true 3 (Zak v.scores),.fr true 114 (v.bodies.map bodyC)],.t (.bool (ZqN p).isSome)]):=by
 have hbt:=hpp.base.tick
 have hcw:=Zc1 p.now hp.now.1 hp.now.2.1 hp.now.2.2
 have hsa:=Ziy p (p.base.tick + 1) hp hd _ rfl
 by_cases h:p.base.tick + 1=p.now.tick
 ·rw [show ZqN p=some p.now from if_pos h] at hv ⊢
  dsimp only [Option.getD_some,Option.isSome_some] at hv ⊢
  subst hv
  refine AC.go Tryz.func75 Tryz.ntmps75 fun B W hr=>?_
  repeat' (first|refine pa ?_|(refine pb ?_ ?_<;>intro hg)|(refine Zab (n:=20) ?_;(first|refine pz3 hcw ?_))|refine po ?_|fail)
  exact pfg
 ·rw [show ZqN p=Zbn p (p.base.tick + 1) from if_neg h] at hv ⊢
  rw [← hv] at hsa
  refine AC.go Tryz.func75 Tryz.ntmps75 fun B W hr=>?_
  repeat' (first|refine pa ?_|(refine pb ?_ ?_<;>intro hg)|(refine Zab (n:=20) ?_;(first|refine pz3 hsa ?_))|refine po ?_|fail)
  exact pfg
theorem ZrG (p:Pr) (hp:Zeq p) (hd:Zc0 p) (v:Pr) (hv:v=confirmV p):AC Tryz.prog 21 [.agg [.t (.int .i64 p.me),.t (.int .i64 p.delay),.t (.int .i64 p.ahead),.t (.int .i64 p.seed),.t (.lst false 46 (p.tracks.map trackC)),.t (.lst true 9 (Zai p.base.level)),.t (.int .i64 p.base.tick),.t (.int .i64 p.base.seed),.t (ints 3 p.base.scores),.t (.lst true 114 (p.base.bodies.map bodyC)),.t (.lst true 9 (Zai p.now.level)),.t (.int .i64 p.now.tick),.t (.int .i64 p.now.seed),.t (ints 3 p.now.scores),.t (.lst true 114 (p.now.bodies.map bodyC)),.t (.lst false 27 (p.used.map trackC)),.t (.lst true 100 (p.saves.map saveC)),.t (ints 3 p.sums),.t (.int .i64 p.ft),.t (.int .i64 p.fp),.t (.int .i64 p.fa),.t (.int .i64 p.rolls),.t (.int .i64 p.again)]] (.agg [.t (.int .i64 v.me),.t (.int .i64 v.delay),.t (.int .i64 v.ahead),.t (.int .i64 v.seed),.fr false 46 (v.tracks.map trackC),.fr true 9 (Zai v.base.level),.t (.int .i64 v.base.tick),.t (.int .i64 v.base.seed),.fr true 3 (Zak v.base.scores),.fr true 114 (v.base.bodies.map bodyC),.fr true 9 (Zai v.now.level),.t (.int .i64 v.now.tick),.t (.int .i64 v.now.seed),.fr true 3 (Zak v.now.scores),.fr true 114 (v.now.bodies.map bodyC),.fr false 27 (v.used.map trackC),.fr true 100 (v.saves.map saveC),.fr true 3 (Zak v.sums),.t (.int .i64 v.ft),.t (.int .i64 v.fp),.t (.int .i64 v.fa),.t (.int .i64 v.rolls),.t (.int .i64 v.again)]):=by
 have hpo:=Zgp p hp.tracks.1
 have hcp:=ZjY p hp
 by_cases h1:Zb9 p=true
 case neg =>
  rw [confirmV,if_neg h1] at hv
  rw [Bool.not_eq_true] at h1
  rw [h1] at hpo
  subst hv
  refine AC.go Tryz.func21 Tryz.ntmps21 fun B W hr=>?_
  repeat' (first|refine pa ?_|(refine pb ?_ ?_<;>intro hg)|(refine Zab (n:=20) ?_;(first|refine Zaa hpo ?_|refine pz3 hcp ?_))|refine po ?_|fail)
  exact pfg
 rw [confirmV,if_pos h1] at hv
 rw [h1] at hpo
 have hpp:=Zbq.1 h1
 have hkt:=ZdB p.tracks
 have hkl:=Zg5 (ts:=p.tracks)
 refine AC.go Tryz.func21 Tryz.ntmps21 fun B W hr=>?_
 repeat' (first|refine pa ?_|(refine pb ?_ ?_<;>intro hg)|(refine Zab (n:=20) ?_;(first|refine Zaa hpo ?_|refine Zaa hkt ?_|refine pz3 hcp ?_))|refine po ?_|fail)
 refine aW.ghost (Zco.renameC (b:=3) (c:=5) (o:=9005) (j:=700) (ej:=1) rfl rfl rfl rfl rfl rfl rfl rfl) ?_
 refine aW.ghost (Zco.renameC (b:=3) (c:=8) (o:=9008) (j:=703) (ej:=1) rfl rfl rfl rfl rfl rfl rfl rfl) ?_
 refine aW.ghost (Zco.renameC (b:=3) (c:=9) (o:=9009) (j:=704) (ej:=1) rfl rfl rfl rfl rfl rfl rfl rfl) ?_
 dsimp only [List.set]
 refine aW.loopF rfl (fun q:Wd×TS×List Sv×List Int×Nat×Nat×Nat×Nat=>[]) [(4,_),(3,_),(2,_),(1,_)] (fun q=>[(3,1,.box 40 [.t (.int .i64 p.me),.t (.int .i64 p.delay),.t (.int .i64 p.ahead),.t (.int .i64 p.seed),.hnd 9004 1,.hnd 700 q.2.2.2.2.1,.t (.int .i64 q.1.tick),.t (.int .i64 q.1.seed),.hnd 703 q.2.2.2.2.1,.hnd 704 q.2.2.2.2.1,.hnd 9010 1,.t (.int .i64 p.now.tick),.t (.int .i64 p.now.seed),.hnd 9013 1,.hnd 9014 1,.hnd 9015 q.2.2.2.2.2.1,.hnd 9016 q.2.2.2.2.2.2.1,.hnd 9017 q.2.2.2.2.2.2.2,.t (.int .i64 p.ft),.t (.int .i64 p.fp),.t (.int .i64 p.fa),.t (.int .i64 p.rolls),.t (.int .i64 p.again)]),(700,q.2.2.2.2.1,.row true true 9 (Zai q.1.level)),(703,q.2.2.2.2.1,.row true true 3 (Zak q.1.scores)),(704,q.2.2.2.2.1,.row true true 114 (q.1.bodies.map bodyC)),(9015,q.2.2.2.2.2.1,.row false true 27 (q.2.1.map trackC)),(9016,q.2.2.2.2.2.2.1,.row true true 100 (q.2.2.1.map saveC)),(9017,q.2.2.2.2.2.2.2,.row true true 3 (Zak q.2.2.2.1))]) [(1,_,_),(2,_,_),(9004,_,_),(9010,_,_),(9013,_,_),(9014,_,_)] (fun q=>v=Zki (p.now.tick - q.1.tick).toNat (Zqi p q.1 q.2.1 q.2.2.1 q.2.2.2.1)∧Zic (Zqi p q.1 q.2.1 q.2.2.1 q.2.2.2.1)∧Zc0 (Zqi p q.1 q.2.1 q.2.2.1 q.2.2.2.1)) (fun q=>(p.now.tick - q.1.tick).toNat) (p.base,p.used,p.saves,p.sums,1,1,1,1) ⟨hv,hpp,hd⟩ (by (exact plei)) ?_
 rintro ⟨b,us,sv,sm,e1,e2,e3,e4⟩ hI
 obtain ⟨hq,hqp,hqd⟩:v=Zki (p.now.tick - b.tick).toNat (Zqi p b us sv sm)∧Zic (Zqi p b us sv sm)∧Zc0 (Zqi p b us sv sm):=hI
 have hql:=Zp3 hqp
 have hfw:=ZqH (Zqi p b us sv sm) hql
 have hnc:=ZqS (Zqi p b us sv sm) hqp hql hqd _ rfl
 have hsl:(sv.map saveC).length=sv.length:=List.length_map _
 have hul:(us.map trackC).length=us.length:=List.length_map _
 have hml:=Zal sm
 have hse:(sv.length:Int)=p.now.tick - b.tick:=hqp.saves
 have hue:(us.length:Int)=p.now.tick - b.tick:=hqp.used
 have hme:(sm.length:Int)=b.tick + 1:=hqp.sums
 have hbt:0≤b.tick∧b.tick≤100000:=hqp.base.tick
 have hnt:=hpp.now.tick
 have hgo:ZqE (Zqi p b us sv sm)↔b.tick < p.now.tick∧b.tick < Zbe p.tracks∧ZdR (Zqi p b us sv sm) ≠ b.tick:=Iff.rfl
 generalize ZdR (Zqi p b us sv sm)=fw at hfw hgo
 refine pln ?_
 by_cases hg:ZqE (Zqi p b us sv sm)
 case neg =>
  rw [show (p.now.tick - b.tick).toNat=((Zqi p b us sv sm).now.tick - (Zqi p b us sv sm).base.tick).toNat from rfl,Zqu (Zrh hg)] at hq
  dsimp only [Zqi] at hq hfw hnc
  subst hq
  by_cases c1:b.tick < p.now.tick
  case neg =>
   repeat' (first|refine pa ?_|(refine pb ?_ ?_<;>intro hg)|refine po ?_|(refine T101d3 ?_)|fail)
   exact pfg
  by_cases c2:b.tick < Zbe p.tracks
  case neg =>
   repeat' (first|refine pa ?_|(refine pb ?_ ?_<;>intro hg)|refine po ?_|(refine T101d3 ?_)|fail)
   exact pfg
  have c3:fw=b.tick:=Classical.byContradiction fun c3=>hg (hgo.2 ⟨c1,c2,c3⟩)
  repeat' (first|refine pa ?_|(refine pb ?_ ?_<;>intro hg)|(refine Zab (n:=20) ?_;(first|refine Zaa hfw ?_))|refine po ?_|((apply pdq 22;(focus exact pdp);(focus (refine ZaC 0 ?_<;>refine ZaC 1 ?_<;>refine pt7_ 2 ?_<;>refine ZaC 3 ?_<;>refine ZaC 4 ?_<;>refine pt7_ 5 ?_<;>refine Zbh 6 ?_<;>refine pt0_ 7 ?_<;>(first|refine ZaK 8 ?_|(refine pt2 8 ?_ ?_<;>intro hg<;>(refine ZaK 8 ?_)))<;>(first|refine ZaK 9 ?_|(refine pt2 9 ?_ ?_<;>intro hg<;>(refine ZaK 9 ?_)))<;>(first|refine pg7_ 10 ?_|(refine pt2 10 ?_ ?_<;>intro hg<;>(refine pg7_ 10 ?_)))<;>(first|refine pg0_ 11 ?_|(refine pt2 11 ?_ ?_<;>intro hg<;>(refine pg0_ 11 ?_)))<;>(first|refine ZcA 12 ?_|(refine pt2 12 ?_ ?_<;>intro hg<;>(refine ZcA 12 ?_)))<;>refine pt2_ 13 ?_<;>refine pt0_ 14 ?_<;>(first|refine pg7_ 15 ?_|(refine pt2 15 ?_ ?_<;>intro hg<;>(refine pg7_ 15 ?_)))<;>(first|refine ZaK 17 ?_|(refine pt2 17 ?_ ?_<;>intro hg<;>(refine ZaK 17 ?_)))<;>(first|refine ZaK 18 ?_|(refine pt2 18 ?_ ?_<;>intro hg<;>(refine ZaK 18 ?_)))<;>(first|refine pg7_ 19 ?_|(refine pt2 19 ?_ ?_<;>intro hg<;>(refine pg7_ 19 ?_)))<;>(refine pq1 16 ?_)<;>(first|(refine pog ?_;(first|(refine Zab (n:=20) ?_;(first|refine Zaa hfw ?_))|refine pk20 ?_))|refine pon ?_|(refine po2 ?_ ?_<;>intro hg<;>(first|(refine pog ?_;(first|(refine Zab (n:=20) ?_;(first|refine Zaa hfw ?_))|refine pk20 ?_))|refine pon ?_)))<;>(first|refine ZcA 20 ?_|(refine pt2 20 ?_ ?_<;>intro hg<;>(refine ZcA 20 ?_)))<;>refine pt2_ 21 ?_<;>(refine ZaI ?_;exact ZaJ)))))|fail)
  exact pfg
 obtain ⟨c1,c2,c3⟩:=hgo.1 hg
 cases hn:ZqN (Zqi p b us sv sm) with
 | none =>
  rw [show (p.now.tick - b.tick).toNat=((Zqi p b us sv sm).now.tick - (Zqi p b us sv sm).base.tick).toNat from rfl,Zqu (ZqL hg hn)] at hq
  rw [hn] at hnc
  dsimp only [Zqi,Option.getD_none,Option.isSome_none] at hq hfw hnc
  subst hq
  repeat' (first|refine pa ?_|(refine pb ?_ ?_<;>intro hg)|(refine Zab (n:=20) ?_;(first|refine Zaa hfw ?_|refine pz3 hnc ?_))|refine po ?_|((apply pdq 22;(focus exact pdp);(focus (refine ZaC 0 ?_<;>refine ZaC 1 ?_<;>refine pt7_ 2 ?_<;>refine ZaC 3 ?_<;>refine ZaC 4 ?_<;>refine pt7_ 5 ?_<;>refine Zbh 6 ?_<;>refine pt0_ 7 ?_<;>(first|refine ZaK 8 ?_|(refine pt2 8 ?_ ?_<;>intro hg<;>(refine ZaK 8 ?_)))<;>(first|refine ZaK 9 ?_|(refine pt2 9 ?_ ?_<;>intro hg<;>(refine ZaK 9 ?_)))<;>(first|refine pg7_ 10 ?_|(refine pt2 10 ?_ ?_<;>intro hg<;>(refine pg7_ 10 ?_)))<;>(first|refine pg0_ 11 ?_|(refine pt2 11 ?_ ?_<;>intro hg<;>(refine pg0_ 11 ?_)))<;>(first|refine ZcA 12 ?_|(refine pt2 12 ?_ ?_<;>intro hg<;>(refine ZcA 12 ?_)))<;>refine pt2_ 13 ?_<;>refine pt0_ 14 ?_<;>(first|refine pg7_ 15 ?_|(refine pt2 15 ?_ ?_<;>intro hg<;>(refine pg7_ 15 ?_)))<;>(first|refine ZaK 17 ?_|(refine pt2 17 ?_ ?_<;>intro hg<;>(refine ZaK 17 ?_)))<;>(first|refine ZaK 18 ?_|(refine pt2 18 ?_ ?_<;>intro hg<;>(refine ZaK 18 ?_)))<;>(first|refine pg7_ 19 ?_|(refine pt2 19 ?_ ?_<;>intro hg<;>(refine pg7_ 19 ?_)))<;>(refine pq1 16 ?_)<;>(first|(refine pog ?_;(first|(refine Zab (n:=20) ?_;(first|refine Zaa hfw ?_|refine pz3 hnc ?_))|refine pk20 ?_))|refine pon ?_|(refine po2 ?_ ?_<;>intro hg<;>(first|(refine pog ?_;(first|(refine Zab (n:=20) ?_;(first|refine Zaa hfw ?_|refine pz3 hnc ?_))|refine pk20 ?_))|refine pon ?_)))<;>(first|refine ZcA 20 ?_|(refine pt2 20 ?_ ?_<;>intro hg<;>(refine ZcA 20 ?_)))<;>refine pt2_ 21 ?_<;>(refine ZaI ?_;exact ZaJ)))))|fail)
  exact pfg
 | some w =>
  have hstep:=ZqD hqp (Zql hg hn)
  obtain ⟨hrp,hrt,_,_,_⟩:=Zqp hqp (Zql hg hn)
  have hrd:=ZqV hqd w
  rw [ZqJ] at hstep hrp hrt hrd
  have hwt:w.tick=b.tick + 1:=hrt
  replace hq:=hq.trans hstep
  rw [hn] at hnc
  dsimp only [Zqi,Option.getD_some,Option.isSome_some] at hfw hnc
  have hws:=Zrx w
  have hwb:=Zii w
  have hdt:=Zqs (Zbp w) (Zbp w) (by have:=ZgG (w:=w);omega)
  generalize hwse:Zgm w=ws at hws
  generalize hwbe:Zbp w=wb at hwb hdt
  generalize hdte:Zkl wb wb=dt at hdt
  repeat' (first|(refine pth ?_)|((fail_if_success (with_reducible show aW _ _ _ (Code.seq (Code.seq (Code.region 12 _ _) _) _) _ _));(fail_if_success (with_reducible show aW _ _ _ (Code.seq (Code.region 12 _ _) _) _ _));(fail_if_success (with_reducible show aW _ _ _ (Code.region 12 _ _) _ _));(first|refine pc ?_|(refine pbc ?_ ?_<;>intro hg)))|(first|refine pl ?_|(refine pbl ?_ ?_<;>intro hg))|(first|refine ZaX ?_|refine ZkW ?_|(refine Zab (n:=20) ?_;(first|refine Zaa hfw ?_|refine Zaa hws ?_|refine pz3 hnc ?_))|refine po ?_)|((apply pdq 22;(focus exact pdp);(focus (refine ZaC 0 ?_<;>refine ZaC 1 ?_<;>refine pt7_ 2 ?_<;>refine ZaC 3 ?_<;>refine ZaC 4 ?_<;>refine pt7_ 5 ?_<;>refine Zbh 6 ?_<;>refine pt0_ 7 ?_<;>(first|refine ZaK 8 ?_|(refine pt2 8 ?_ ?_<;>intro hg<;>(refine ZaK 8 ?_)))<;>(first|refine ZaK 9 ?_|(refine pt2 9 ?_ ?_<;>intro hg<;>(refine ZaK 9 ?_)))<;>(first|refine pg7_ 10 ?_|(refine pt2 10 ?_ ?_<;>intro hg<;>(refine pg7_ 10 ?_)))<;>(first|refine pg0_ 11 ?_|(refine pt2 11 ?_ ?_<;>intro hg<;>(refine pg0_ 11 ?_)))<;>(first|refine ZcA 12 ?_|(refine pt2 12 ?_ ?_<;>intro hg<;>(refine ZcA 12 ?_)))<;>refine pt2_ 13 ?_<;>refine pt0_ 14 ?_<;>(first|refine pg7_ 15 ?_|(refine pt2 15 ?_ ?_<;>intro hg<;>(refine pg7_ 15 ?_)))<;>(first|refine ZaK 17 ?_|(refine pt2 17 ?_ ?_<;>intro hg<;>(refine ZaK 17 ?_)))<;>(first|refine ZaK 18 ?_|(refine pt2 18 ?_ ?_<;>intro hg<;>(refine ZaK 18 ?_)))<;>(first|refine pg7_ 19 ?_|(refine pt2 19 ?_ ?_<;>intro hg<;>(refine pg7_ 19 ?_)))<;>(refine pq1 16 ?_)<;>(first|(refine pog ?_;(first|(refine Zab (n:=20) ?_;(first|refine Zaa hfw ?_|refine Zaa hws ?_|refine pz3 hnc ?_))|refine pk20 ?_))|refine pon ?_|(refine po2 ?_ ?_<;>intro hg<;>(first|(refine pog ?_;(first|(refine Zab (n:=20) ?_;(first|refine Zaa hfw ?_|refine Zaa hws ?_|refine pz3 hnc ?_))|refine pk20 ?_))|refine pon ?_)))<;>(first|refine ZcA 20 ?_|(refine pt2 20 ?_ ?_<;>intro hg<;>(refine ZcA 20 ?_)))<;>refine pt2_ 21 ?_<;>(refine ZaI ?_;exact ZaJ)))))|(refine pdr [5] 8 (by (apply pct 8 255 0;(focus (intro hd7;(apply pct 8 63 2;(focus (intro hd6;(apply pct 8 31 3;(focus (intro hd5;(apply pct 8 29 4;(focus (intro hd4;(apply pct 8 15 4;(focus (intro hd3;(apply pct 8 13 5;(focus (intro hd2;(apply pct 8 7 5;(focus (intro hd1;(refine ZaC 0 ?_<;>refine pt7_ 2 ?_<;>(refine pq2 1 3 ?_ ?_;(focus ((refine pop ?_;refine pk7 ?_)<;>(exact ptm hd1)));(focus ((refine pop ?_;(refine Zab (n:=20) ?_;(first|refine Zaa hws ?_)))<;>(exact ptm hd2)))))));(case main=>((refine pq1 3 ?_;(focus ((refine pop ?_;(refine Zab (n:=20) ?_;(first|refine Zaa hws ?_)))<;>(exact ptm hd3)))))))));(case main=>((refine pq2 1 4 ?_ ?_;(focus ((refine pop ?_;refine pk7 ?_)<;>(exact ptw hd3)));(focus ((refine pop ?_;(first|refine ZaX ?_|refine pk6 ?_))<;>(exact ptm hd4)))))))));(case main=>((refine pq1 4 ?_;(focus ((refine pop ?_;(first|refine ZaX ?_|refine pk6 ?_))<;>(exact ptm hd5)))))))));(case main=>((refine pq1 1 ?_;(focus ((refine pop ?_;refine pk7 ?_)<;>(exact ptw hd5)))))))));(case main=>((refine pq1 5 ?_;(focus ((refine pop ?_;refine pk20 ?_)<;>(exact ptm hd6)))))))));(case main=>(refine ZaC 6 ?_<;>(refine pq1 7 ?_;(focus ((refine pop ?_;refine pk8 ?_)<;>(exact ptm hd7)))))))));(case main=>((refine ZaI ?_;exact ZaJ))))) ?_)|fail)
  rw [ZqU us rfl,ZqU sv rfl]
  have hsd:(sv.drop 1).length=sv.length - 1:=List.length_drop
  cases hs1:sv.drop 1 with
  | nil =>
   rw [hs1] at hsd hq hrp hrd
   refine aW.ghost (Zco.renameC (b:=3) (c:=5) (o:=1000 * 41) (j:=700) rfl rfl rfl rfl rfl rfl rfl rfl) ?_
   refine aW.ghost (Zco.renameC (b:=3) (c:=8) (o:=1000 * 41 + 1 + 1 + 1) (j:=703) rfl rfl rfl rfl rfl rfl rfl rfl) ?_
   refine aW.ghost (Zco.renameC (b:=3) (c:=9) (o:=1000 * 41 + 1 + 1 + 1 + 1) (j:=704) rfl rfl rfl rfl rfl rfl rfl rfl) ?_
   dsimp only [List.set]
   repeat' (first|refine pa ?_|(refine pb ?_ ?_<;>intro hg)|refine po ?_|fail)
   exact ⟨(w,us.drop 1,[],sm++[ws],_,_,_,_),⟨by rw [← hwse];exact hq,by rw [← hwse];exact hrp,by rw [← hwse];exact hrd⟩,by show (p.now.tick - w.tick).toNat < (p.now.tick - b.tick).toNat;omega,by rw [Zky];(exact ple)⟩
  | cons s r =>
   rw [hs1] at hsd hq hrp hrd
   have hfx:ZpL w (s :: r)=(s.1,dt) :: r:=by rw [← hdte,← hwbe];rfl
   rw [hfx] at hq hrp hrd
   have hcl:(List.map saveC (s :: r)).length=r.length + 1:=by rw [List.length_map];rfl
   have hcl2:(s :: r).length=r.length + 1:=rfl
   repeat' (first|(refine pth ?_)|((fail_if_success (with_reducible show aW _ _ _ (Code.seq (Code.seq (Code.region 14 _ _) _) _) _ _));(fail_if_success (with_reducible show aW _ _ _ (Code.seq (Code.region 14 _ _) _) _ _));(fail_if_success (with_reducible show aW _ _ _ (Code.region 14 _ _) _ _));(first|refine pc ?_|(refine pbc ?_ ?_<;>intro hg)))|(first|refine pl ?_|(refine pbl ?_ ?_<;>intro hg))|(first|(refine Zab (n:=20) ?_;(first|refine Zaa hwb ?_))|refine po ?_)|fail)
   refine aW.ghost (Zco.renameC (b:=3) (c:=5) (o:=1000 * 41) (j:=700) rfl rfl rfl rfl rfl rfl rfl rfl) ?_
   refine aW.ghost (Zco.renameC (b:=3) (c:=8) (o:=1000 * 41 + 1 + 1 + 1) (j:=703) rfl rfl rfl rfl rfl rfl rfl rfl) ?_
   refine aW.ghost (Zco.renameC (b:=3) (c:=9) (o:=1000 * 41 + 1 + 1 + 1 + 1) (j:=704) rfl rfl rfl rfl rfl rfl rfl rfl) ?_
   dsimp only [List.set]
   repeat' (first|refine pa ?_|(refine pb ?_ ?_<;>intro hg)|(refine Zab (n:=20) ?_;(first|refine Zaa hdt ?_))|refine po ?_|(refine Zqw ?_)|fail)
   exact ⟨(w,us.drop 1,(s.1,dt) :: r,sm++[ws],_,_,_,_),⟨by rw [← hwse];exact hq,by rw [← hwse];exact hrp,by rw [← hwse];exact hrd⟩,by show (p.now.tick - w.tick).toNat < (p.now.tick - b.tick).toNat;omega,by rw [Zky];(exact ple)⟩
end Go.Proofs.YthfaongbpdnlnaaGreat
