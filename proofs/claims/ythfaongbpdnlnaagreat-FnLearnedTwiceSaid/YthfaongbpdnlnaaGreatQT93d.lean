/- What is proved: contracts on differences of texts. Conditions: as each lemma says. -/
import Derived.Test.YthfaongbpdnlnaaGreatQPC
import Derived.Test.YthfaongbpdnlnaaGreatQV31
import Derived.Test.YthfaongbpdnlnaaGreatT88
import Derived.Test.YthfaongbpdnlnaaGreatT23ub
namespace Go.Proofs.YthfaongbpdnlnaaGreat
set_option maxHeartbeats 4000000
set_option maxRecDepth 20000
set_option linter.unusedSimpArgs false
set_option linter.unusedVariables false
open Go.RowKit Ab
theorem ZlQ (xs:List Int) (h:xs.length≤1048576):AC Tryz.prog 232 [.agg [.t (ints 3 xs)]] (.agg [.fr true 3 (Zak xs)]):=by
 have hl:=Zal xs
 refine AC.go Tryz.func232 Tryz.ntmps232 fun B W hr=>?_
 repeat' (first|refine pa ?_|(refine pb ?_ ?_<;>intro hg)|refine po ?_|fail)
 all_goals refine pfin ?_
 (exact pgiv)
theorem Zir (ts:TS) (hn:ts.length≤1048576) (hx:∀ k,k < ts.length→(ts.getD k default).length≤1048576):AC Tryz.prog 194 [.t (.lst false 46 (ts.map trackC))] (.fr false 46 (ts.map trackC)):=by
 refine AC.go Tryz.func194 Tryz.ntmps194 fun B W hr=>?_
 repeat' (first|refine pa ?_|(refine pb ?_ ?_<;>intro hg)|refine po ?_|fail)
 refine aW.ghost (Zco.unflat (o:=5) (d:=true) (e:=46) (els:=[]) rfl) ?_
 dsimp only [St.upds,updl]
 refine aW.loopF rfl (fun q:Nat×Nat×List (List T)=>[(4,.t (.int .i64 q.1)),(3,.hnd 5 q.2.1)]) [(0,_)] (fun q=>[(5,q.2.1,.row false true 46 q.2.2)]) [] (fun q=>q.1≤ts.length∧q.2.2=(ts.take q.1).map trackC) (fun q=>ts.length - q.1) (0,1,[]) ⟨Nat.zero_le _,rfl⟩ (by (exact plei)) ?_
 rintro ⟨k,ep,els⟩ hI
 obtain ⟨hk,he⟩:k≤ts.length∧els=(ts.take k).map trackC:=hI
 subst he
 have hel2:(ts.take k).length=k:=by rw [List.length_take];omega
 have hel:((ts.take k).map trackC).length=k:=by rw [List.length_map,hel2]
 refine pln ?_
 by_cases hkn:k < ts.length
 ·have ht:=ZlQ (ts.getD k default) (hx k hkn)
  repeat' (first|refine pa ?_|(refine pb ?_ ?_<;>intro hg)|(refine z9 ?_;(refine pz3 ht ?_))|refine po ?_|fail)
  exact ⟨(k + 1,ep + 1,_),⟨hkn,(Zeg hkn).symm⟩,by show ts.length - (k + 1) < ts.length - k;omega,by (exact ple)⟩
 ·repeat' (first|refine pa ?_|(refine pb ?_ ?_<;>intro hg)|refine po ?_|fail)
  have hk':k=ts.length:=by omega
  subst hk'
  rw [List.take_length]
  exact pfg
theorem ZlR (p:Pr) (h:Zeq p):AC Tryz.prog 122 [.agg (pcR p)] (.agg (pcF p)):=by
 have g1:=Zir p.tracks h.tracks.1 h.tracks.2
 have g2:=Zft p.base h.base.1 h.base.2.1 h.base.2.2
 have g3:=Zft p.now h.now.1 h.now.2.1 h.now.2.2
 have hl:(p.saves.map saveC).length=p.saves.length:=List.length_map _
 have hl2:=h.saves
 have hl3:=Zal p.sums
 have hl4:=h.sums
 have hu:=h.used.1
 refine AC.go Tryz.func122 Tryz.ntmps122 fun B W hr=>?_
 dsimp only [pcR,pcF]
 repeat' (first|refine pa ?_|(refine pb ?_ ?_<;>intro hg)|(refine z9 ?_;(first|refine pz3 g1 ?_|refine pz3 g2 ?_|refine pz3 g3 ?_))|refine po ?_|fail)
 refine aW.nilcell (o:=3) (i:=500) (k:=15) false 27 rfl rfl rfl rfl rfl ?_
 refine aW.loopF rfl (fun q:Nat×Nat×List (List T)=>[(4,.t (.int .i64 q.1))]) [(3,_),(2,_),(1,_)] (fun q=>[(3,1,.box 40 [.t (.int .i64 p.me),.t (.int .i64 p.delay),.t (.int .i64 p.ahead),.t (.int .i64 p.seed),.hnd 8000 1,.hnd 12000 1,.t (.int .i64 p.base.tick),.t (.int .i64 p.base.seed),.hnd 12003 1,.hnd 12004 1,.hnd 16000 1,.t (.int .i64 p.now.tick),.t (.int .i64 p.now.seed),.hnd 16003 1,.hnd 16004 1,.hnd 500 q.2.1,.t (.lst true 100 (p.saves.map saveC)),.t (ints 3 p.sums),.t (.int .i64 p.ft),.t (.int .i64 p.fp),.t (.int .i64 p.fa),.t (.int .i64 p.rolls),.t (.int .i64 p.again)]),(500,q.2.1,.row false true 27 q.2.2)]) [(1,_,_),(2,_,_),(8000,_,_),(12000,_,_),(12003,_,_),(12004,_,_),(16000,_,_),(16003,_,_),(16004,_,_)] (fun q=>q.1≤p.used.length∧q.2.2=(p.used.take q.1).map trackC) (fun q=>p.used.length - q.1) (0,1,[]) ⟨Nat.zero_le _,rfl⟩ (by (exact plei)) ?_
 rintro ⟨k,ep,els⟩ hI
 obtain ⟨hk,he⟩:k≤p.used.length∧els=(p.used.take k).map trackC:=hI
 subst he
 have hel2:(p.used.take k).length=k:=by rw [List.length_take];omega
 have hel:((p.used.take k).map trackC).length=k:=by rw [List.length_map,hel2]
 refine pln ?_
 by_cases hkn:k < p.used.length
 ·have hx:=h.used.2 k hkn
  have hxe:=Zal (p.used.getD k default)
  repeat' (first|refine pa ?_|(refine pb ?_ ?_<;>intro hg)|refine po ?_|(refine pdr [1] 13 (by (apply pct 13 8191 0;(focus (intro hd9;(apply pct 13 2047 2;(focus (intro hd8;(apply pct 13 1023 3;(focus (intro hd7;(apply pct 13 1021 4;(focus (intro hd6;(apply pct 13 511 4;(focus (intro hd5;(apply pct 13 509 5;(focus (intro hd4;(apply pct 13 255 5;(focus (intro hd3;(apply pct 13 253 6;(focus (intro hd2;(apply pct 13 251 6;(focus (intro hd1;(refine ZaC 0 ?_<;>refine ZaC 3 ?_<;>refine pt7_ 4 ?_<;>refine pt0_ 5 ?_<;>refine Za7 6 ?_<;>refine pt7_ 7 ?_<;>(refine pq2 1 2 ?_ ?_;(focus ((refine pop ?_;refine pk7 ?_)<;>(exact ptm hd1)));(focus ((refine pop ?_;refine pk6 ?_)<;>(exact ptm hd2)))))));(case main=>((refine pq1 2 ?_;(focus ((refine pop ?_;refine pk6 ?_)<;>(exact ptm hd3)))))))));(case main=>((refine pq2 1 8 ?_ ?_;(focus ((refine pop ?_;refine pk7 ?_)<;>(exact ptw hd3)));(focus ((refine pop ?_;refine pk20 ?_)<;>(exact ptm hd4)))))))));(case main=>((refine pq1 8 ?_;(focus ((refine pop ?_;refine pk20 ?_)<;>(exact ptm hd5)))))))));(case main=>((refine pq2 1 9 ?_ ?_;(focus ((refine pop ?_;refine pk7 ?_)<;>(exact ptw hd5)));(focus ((refine pop ?_;refine pk6 ?_)<;>(exact ptm hd6)))))))));(case main=>((refine pq1 9 ?_;(focus ((refine pop ?_;refine pk6 ?_)<;>(exact ptm hd7)))))))));(case main=>((refine pq1 1 ?_;(focus ((refine pop ?_;refine pk7 ?_)<;>(exact ptw hd7)))))))));(case main=>((refine pq1 10 ?_;(focus ((refine pop ?_;refine pk20 ?_)<;>(exact ptm hd8)))))))));(case main=>(refine ZaC 11 ?_<;>(refine pq1 12 ?_;(focus ((refine pop ?_;refine pk8 ?_)<;>(exact ptm hd9)))))))));(case main=>((refine ZaI ?_;exact ZaJ))))) ?_)|fail)
  exact ⟨(k + 1,ep + 1,_),⟨hkn,(Zeg hkn).symm⟩,by show p.used.length - (k + 1) < p.used.length - k;omega,by (exact ple)⟩
 ·have hk':k=p.used.length:=by omega
  subst hk'
  rw [List.take_length]
  repeat' (first|refine pa ?_|(refine pb ?_ ?_<;>intro hg)|refine po ?_|fail)
  exact pfg
theorem Zn5 {X Y:Prop} (h:Y) (r:Hld Y→X:=by intro h;(apply pdq 22;(focus exact pdp);(focus (refine ZaC 0 ?_<;>refine pt7_ 1 ?_<;>refine pt0_ 2 ?_<;>refine Za7 3 ?_<;>refine pt7_ 4 ?_<;>refine pt0_ 5 ?_<;>(refine pq1 6 ?_)<;>(refine pop ?_;(first|(refine z9 ?_;(refine Zaa hro ?_))|refine pk20 ?_))<;>refine Zf9 7 ?_<;>refine pt0_ 8 ?_<;>(first|refine ZaK 9 ?_|(refine pt2 9 ?_ ?_<;>intro hg<;>(refine ZaK 9 ?_)))<;>(first|refine pg7_ 10 ?_|(refine pt2 10 ?_ ?_<;>intro hg<;>(refine pg7_ 10 ?_)))<;>(first|refine pg0_ 11 ?_|(refine pt2 11 ?_ ?_<;>intro hg<;>(refine pg0_ 11 ?_)))<;>(first|refine Zf8 12 ?_|(refine pt2 12 ?_ ?_<;>intro hg<;>(refine Zf8 12 ?_)))<;>(first|refine ZaK 13 ?_|(refine pt2 13 ?_ ?_<;>intro hg<;>(refine ZaK 13 ?_)))<;>(first|refine pg7_ 14 ?_|(refine pt2 14 ?_ ?_<;>intro hg<;>(refine pg7_ 14 ?_)))<;>(first|refine ZaK 15 ?_|(refine pt2 15 ?_ ?_<;>intro hg<;>(refine ZaK 15 ?_)))<;>(first|refine ZaK 16 ?_|(refine pt2 16 ?_ ?_<;>intro hg<;>(refine ZaK 16 ?_)))<;>(first|refine pg7_ 17 ?_|(refine pt2 17 ?_ ?_<;>intro hg<;>(refine pg7_ 17 ?_)))<;>(first|refine pg0_ 18 ?_|(refine pt2 18 ?_ ?_<;>intro hg<;>(refine pg0_ 18 ?_)))<;>(first|refine ZcA 19 ?_|(refine pt2 19 ?_ ?_<;>intro hg<;>(refine ZcA 19 ?_)))<;>(first|refine ZcA 20 ?_|(refine pt2 20 ?_ ?_<;>intro hg<;>(refine ZcA 20 ?_)))<;>refine pt2_ 21 ?_<;>(refine ZaI ?_;exact ZaJ))));exact h.out):X:=r ⟨h⟩
theorem Zgt (p:Pr) (hn:p.tracks.length≤1048576):AC Tryz.prog 94 [.agg (pcR p)] (.t (.bool (Zb9 p))):=by
 have hto:=ZeA p.tracks
 have hwb:AC Tryz.prog 79 _ (.t (.bool (ZaW p.base))):=Zdd p.base.level p.base.tick p.base.seed p.base.scores p.base.bodies
 have hwn:AC Tryz.prog 79 _ (.t (.bool (ZaW p.now))):=Zdd p.now.level p.now.tick p.now.seed p.now.scores p.now.bodies
 have hsl:=ZgV p.base.level p.now.level
 have hfo:=Zhs p.ft p.fp p.fa p.tracks.length (by omega)
 by_cases c0:ZaW p.base=true
 case neg =>
  rw [Bool.not_eq_true] at c0
  rw [c0] at hwb
  rw [Zbg fun h=>by have h2:ZaW p.base=true:=Zax.2 h.base;rw [c0] at h2;cases h2]
  refine AC.go Tryz.func94 Tryz.ntmps94 fun B W hr=>?_
  dsimp only [pcR]
  repeat' (first|refine pa ?_|(refine pb ?_ ?_<;>intro hg)|(refine z9 ?_;(first|refine Zaa hto ?_|refine Zaa hwb ?_|refine Zaa hwn ?_|refine Zaa hsl ?_|refine Zaa hfo ?_|refine Zaa ((Zah _ _ _)) ?_))|refine po ?_|fail)
  exact pfr
 rw [c0] at hwb
 have tb:0≤p.base.tick∧p.base.tick≤100000:=(Zax.1 c0).tick
 by_cases c1:ZaW p.now=true
 case neg =>
  rw [Bool.not_eq_true] at c1
  rw [c1] at hwn
  rw [Zbg fun h=>by have h2:ZaW p.now=true:=Zax.2 h.now;rw [c1] at h2;cases h2]
  refine AC.go Tryz.func94 Tryz.ntmps94 fun B W hr=>?_
  dsimp only [pcR]
  repeat' (first|refine pa ?_|(refine pb ?_ ?_<;>intro hg)|(refine z9 ?_;(first|refine Zaa hto ?_|refine Zaa hwb ?_|refine Zaa hwn ?_|refine Zaa hsl ?_|refine Zaa hfo ?_|refine Zaa ((Zah _ _ _)) ?_))|refine po ?_|fail)
  exact pfr
 rw [c1] at hwn
 have tn:0≤p.now.tick∧p.now.tick≤100000:=(Zax.1 c1).tick
 refine AC.go Tryz.func94 Tryz.ntmps94 fun B W hr=>?_
 dsimp only [pcR]
 repeat' (first|refine pa ?_|(refine pb ?_ ?_<;>intro hg)|(refine z9 ?_;(first|refine Zaa hto ?_|refine Zaa hwb ?_|refine Zaa hwn ?_|refine Zaa hsl ?_|refine Zaa hfo ?_|refine Zaa ((Zah _ _ _)) ?_))|refine po ?_|fail)
 all_goals try (
  refine pfin ?_
  refine .inl (congrArg T.bool (Eq.symm (Zbg fun h=>?_)))
  first|exact hg h.level|(rw [h.tracks] at hg;cases hg)|exact hg (of_decide_eq_true h.fault)|(rw [Zae.2 h.me] at hg;cases hg)|(rw [Zae.2 h.delay] at hg;cases hg)|(rw [Zae.2 h.ahead] at hg;cases hg)|(rw [Zae.2 h.seed] at hg;cases hg)|(rw [Zae.2 h.rolls] at hg;cases hg)|(rw [Zae.2 h.again] at hg;cases hg)|(rw [Zae.2 h.lead] at hg;cases hg)|(have a1:=h.nb;have a2:=h.nn;have a3:=h.used;have a4:=h.saves;simp only [Bool.not_eq_true',decide_eq_false_iff_not] at hg;omega)|(have a1:=h.nb;have a2:=h.nn;have a3:=h.used;have a4:=h.saves;exact hg (by omega))
  done)
 rename_i g2 g3 g4 g5 g6 g7 g8 g9 g10 g11 g12 g13 g14
 have c2:decide (p.base.level=p.now.level)=true:=decide_eq_true (by simpa using g2)
 have d3:p.base.scores.length=p.tracks.length:=by first|(have q_:=g3;simp only [Bool.not_eq_false',decide_eq_true_eq] at q_;omega)|omega
 have d4:p.now.scores.length=p.tracks.length:=by first|(have q_:=g4;simp only [Bool.not_eq_false',decide_eq_true_eq] at q_;omega)|omega
 have c5:Zan p.tracks=true:=by simpa using g5
 have hlen:=Zbi c5
 have c6:ZcX p.ft p.fp p.fa p.tracks.length=true:=decide_eq_true (Classical.not_not.1 g6)
 have d7:0≤p.me∧p.me≤(p.tracks.length:Int) - 1:=Zae.1 (by simpa using g7)
 have d8:0≤p.delay∧p.delay≤5:=Zae.1 (by simpa using g8)
 have d9:1≤p.ahead∧p.ahead≤8:=Zae.1 (by simpa using g9)
 have d10:0≤p.seed∧p.seed≤65535:=Zae.1 (by simpa using g10)
 have d11:0≤p.rolls∧p.rolls≤1000000:=Zae.1 (by simpa using g11)
 have d12:0≤p.again∧p.again≤1000000:=Zae.1 (by simpa using g12)
 have d13:0≤p.now.tick - p.base.tick∧p.now.tick - p.base.tick≤p.ahead:=Zae.1 (by simpa using g13)
 have d14:(p.used.length:Int)=p.now.tick - p.base.tick:=by first|(have q_:=g14;simp only [Bool.not_eq_false',decide_eq_true_eq] at q_;omega)|omega
 have d15:(p.saves.length:Int)=p.now.tick - p.base.tick:=by first|(have q_:=hg;simp only [Bool.not_eq_false',decide_eq_true_eq] at q_;omega)|omega
 clear g2 g3 g4 g5 g6 g7 g8 g9 g10 g11 g12 g13 g14 hg
 obtain ⟨m,hme⟩:=Int.eq_ofNat_of_zero_le d7.1
 have hm:m < p.tracks.length:=by omega
 have hmt:p.me.toNat=m:=by rw [hme];rfl
 obtain ⟨u,hu⟩:∃ u:Nat,p.now.tick - p.base.tick=(u:Int):=Int.eq_ofNat_of_zero_le d13.1
 obtain ⟨hu1,hu2⟩:p.used.length=u∧p.saves.length=u:=⟨by omega,by omega⟩
 refine aW.loopF rfl (fun q:Nat=>[(5,.t (.int .i64 (q:Nat)))]) [(4,_),(3,_),(1,_)] (fun q=>[]) [(1,_,_)] (fun q=>q≤u∧∀ k,k < q→ZbD (p.used.getD k default) p.tracks.length=true∧(p.saves.getD k default).1=p.base.tick + (k:Int)) (fun q=>u - q) 0 ⟨Nat.zero_le _,fun k hk=>absurd hk (Nat.not_lt_zero _)⟩ (by (exact plei)) ?_
 rintro q hI
 obtain ⟨hq,hrw⟩:q≤u∧∀ k,k < q→ZbD (p.used.getD k default) p.tracks.length=true∧(p.saves.getD k default).1=p.base.tick + (k:Int):=hI
 refine pln ?_
 by_cases hqn:q < u
 ·have hro:=ZgM (p.used.getD q default) p.tracks.length
  cases hv:ZbD (p.used.getD q default) p.tracks.length with
  | false =>
   rw [hv] at hro
   rw [Zbg fun h=>by have:=h.rows q (by omega);rw [hv] at this;cases this]
   repeat' (first|refine pa ?_|(refine pb ?_ ?_<;>intro hg)|(refine z9 ?_;(refine Zaa hro ?_))|refine po ?_|(refine Zn5 ?_)|fail)
   exact pfr
  | true =>
   rw [hv] at hro
   by_cases hw:(p.saves.getD q default).1=p.base.tick + (q:Int)
   ·repeat' (first|refine pa ?_|(refine pb ?_ ?_<;>intro hg)|(refine z9 ?_;(refine Zaa hro ?_))|refine po ?_|(refine Zn5 ?_)|fail)
    exact ⟨q + 1,⟨hqn,Zjn hrw ⟨hv,hw⟩⟩,by show u - (q + 1) < u - q;omega,by (exact ple)⟩
   ·rw [Zbg fun h=>hw (h.ticks q (by omega))]
    repeat' (first|refine pa ?_|(refine pb ?_ ?_<;>intro hg)|(refine z9 ?_;(refine Zaa hro ?_))|refine po ?_|(refine Zn5 ?_)|fail)
    exact pfr
 obtain rfl:q=u:=by omega
 have hkt:=ZdD p.tracks
 by_cases f1:p.base.tick≤Zbe p.tracks
 case neg =>
  rw [Zbg fun h=>f1 h.known]
  repeat' (first|refine pa ?_|(refine pb ?_ ?_<;>intro hg)|(refine z9 ?_;(refine Zaa hkt ?_))|refine po ?_|((apply pdq 32;(focus exact pdp);(focus ((apply pct 32 63 26;(focus (intro hd1;(refine ZaC 0 ?_<;>refine ZaC 1 ?_<;>refine pt7_ 2 ?_<;>refine ZaC 3 ?_<;>refine pt7_ 4 ?_<;>(refine pq1 5 ?_;(focus ((refine pop ?_;(refine z9 ?_;(refine Zaa hkt ?_)))<;>(exact ptm hd1)))))));(case main=>(refine Zbh 6 ?_<;>refine pt0_ 7 ?_<;>refine ZaK 8 ?_<;>refine pg7_ 9 ?_<;>refine ZaK 10 ?_<;>refine pg7_ 11 ?_<;>refine Zf8 12 ?_<;>refine ZaK 13 ?_<;>refine pg7_ 14 ?_<;>refine ZkT 15 ?_<;>refine ZaK 16 ?_<;>refine ZaK 17 ?_<;>refine pg7_ 18 ?_<;>refine ZcA 19 ?_<;>refine pt2_ 20 ?_<;>refine pt0_ 21 ?_<;>refine ZaK 22 ?_<;>refine pg7_ 23 ?_<;>refine ZkT 24 ?_<;>refine ZaK 25 ?_<;>refine ZaK 26 ?_<;>refine pg7_ 27 ?_<;>refine ZcA 28 ?_<;>refine ZcA 29 ?_<;>refine pt2_ 30 ?_<;>refine pt1_ 31 ?_<;>(refine ZaI ?_;exact ZaJ))))))))|fail)
  exact pfr
 by_cases f2:p.now.tick≤((p.tracks.getD m default).length:Int)
 case neg =>
  rw [Zbg fun h=>f2 (by have:=h.mine;rwa [hmt] at this)]
  repeat' (first|refine pa ?_|(refine pb ?_ ?_<;>intro hg)|refine ZnM ?_|(refine z9 ?_;(refine Zaa hkt ?_))|refine po ?_|(refine T67d1 ?_)|fail)
  exact pfr
 by_cases f3:(p.sums.length:Int)=p.base.tick + 1
 case neg =>
  rw [Zbg fun h=>f3 h.sums]
  repeat' (first|refine pa ?_|(refine pb ?_ ?_<;>intro hg)|refine ZnM ?_|(refine z9 ?_;(refine Zaa hkt ?_))|refine po ?_|(refine T67d1 ?_)|fail)
  refine pfin ?_
  exact .inl (congrArg T.bool (decide_eq_false f3))
 rw [Zbq.2 ⟨c5,Zax.1 c0,Zax.1 c1,of_decide_eq_true c2,d3,d4,c6,d7,d8,d9,d10,d11,d12,d13,d14,d15,fun k hk=>(hrw k (by omega)).1,fun k hk=>(hrw k (by omega)).2,f1,by rw [hmt];exact f2,f3⟩]
 repeat' (first|refine pa ?_|(refine pb ?_ ?_<;>intro hg)|refine ZnM ?_|(refine z9 ?_;(refine Zaa hkt ?_))|refine po ?_|(refine T67d1 ?_)|fail)
 refine pfin ?_
 exact .inl (congrArg T.bool (decide_eq_true f3))
theorem Zfl (w:Wd):AC Tryz.prog 133 [.agg [.t (.lst true 9 (Zai w.level)),.t (.int .i64 w.tick),.t (.int .i64 w.seed),.t (ints 3 w.scores),.t (.lst true 114 (w.bodies.map bodyC))]] (.t (.str (Zbp w))):=by
 have hwo:AC Tryz.prog 79 [.agg [.t (.lst true 9 (Zai w.level)),.t (.int .i64 w.tick),.t (.int .i64 w.seed),.t (ints 3 w.scores),.t (.lst true 114 (w.bodies.map bodyC))]] (.t (.bool (ZaW w))):=Zdd w.level w.tick w.seed w.scores w.bodies
 by_cases h:ZaW w=true
 case neg =>
  rw [Zbp,if_neg h]
  rw [Bool.not_eq_true] at h
  rw [h] at hwo
  refine AC.go Tryz.func133 Tryz.ntmps133 fun B W hr=>?_
  repeat' (first|refine pa ?_|(refine pb ?_ ?_<;>intro hg)|(refine z9 ?_;(refine Zaa hwo ?_))|refine po ?_|fail)
  exact pfr
 rw [Zbp,if_pos h]
 rw [h] at hwo
 have hp:=Zax.1 h
 have hn:=hp.n
 have hm:=hp.m
 have hsl:=Zal w.scores
 have hbl:(w.bodies.map bodyC).length=w.bodies.length:=List.length_map _
 have hpk:=Zj5 (Zen w) (by
  rw [Zen,List.length_append,ZfY]
  simp
  omega)
 refine AC.go Tryz.func133 Tryz.ntmps133 fun B W hr=>?_
 repeat' (first|refine pa ?_|(refine pb ?_ ?_<;>intro hg)|(refine z9 ?_;(refine Zaa hwo ?_))|refine po ?_|fail)
 refine aW.loopF rfl (fun q:Nat×Nat×List (List T)=>[(4,.t (.int .i64 q.1)),(3,.hnd 16 q.2.1)]) [(2,_),(1,_)] (fun q=>[(16,q.2.1,.row true true 3 q.2.2)]) [(1,_,_)] (fun q=>q.1≤w.bodies.length∧q.2.2=Zak ([w.tick,w.seed,(w.scores.length:Int)]++w.scores++(w.bodies.take q.1).flatMap bodyI)) (fun q=>w.bodies.length - q.1) (0,2,_) ⟨Nat.zero_le _,by show _=Zak ([w.tick,w.seed,(w.scores.length:Int)]++w.scores++[]);rw [List.append_nil]⟩ (by (exact plei)) ?_
 rintro ⟨k,ep,es⟩ hI
 obtain ⟨hI,he⟩:k≤w.bodies.length∧es=Zak ([w.tick,w.seed,(w.scores.length:Int)]++w.scores++(w.bodies.take k).flatMap bodyI):=hI
 obtain ⟨zs,hz⟩:∃ zs,zs=[w.tick,w.seed,(w.scores.length:Int)]++w.scores++(w.bodies.take k).flatMap bodyI:=⟨_,rfl⟩
 rw [← hz] at he
 subst he
 have hzk:zs.length=3 + w.scores.length + 9 * k:=by
  rw [hz,List.length_append,ZfY,List.length_append,List.length_take]
  simp
  omega
 have hzi:=Zal zs
 rw [hzk] at hzi
 refine pln ?_
 by_cases hk:k < w.bodies.length
 ·have hnx:[w.tick,w.seed,(w.scores.length:Int)]++w.scores++(w.bodies.take (k + 1)).flatMap bodyI=zs++bodyI (w.bodies.getD k default):=by rw [Zkq hk,hz];simp only [List.append_assoc]
  have hbn:(bodyI (w.bodies.getD k default)).length=9:=rfl
  repeat' (first|refine pa ?_|(refine pb ?_ ?_<;>intro hg)|refine po ?_|fail)
  exact ⟨(k + 1,ep + 1,_),⟨hk,by show _=Zak ([w.tick,w.seed,(w.scores.length:Int)]++w.scores++(w.bodies.take (k + 1)).flatMap bodyI);rw [hnx,Zky]⟩,by show w.bodies.length - (k + 1) < w.bodies.length - k;omega,by (exact ple)⟩
 ·obtain rfl:k=w.bodies.length:=by omega
  rw [List.take_length] at hz
  replace hz:zs=Zen w:=hz
  subst hz
  repeat' (first|refine pa ?_|(refine pb ?_ ?_<;>intro hg)|(refine z9 ?_;(refine Zaa hpk ?_))|refine po ?_|fail)
  exact pfr
theorem ZqW (w:Wd):AC Tryz.prog 132 [.agg [.t (.lst true 9 (Zai w.level)),.t (.int .i64 w.tick),.t (.int .i64 w.seed),.t (ints 3 w.scores),.t (.lst true 114 (w.bodies.map bodyC))]] (.t (.int .i64 (Zgm w))):=by
 have h1:=Zfl w
 have h2:=Zry (Zbp w)
 refine AC.go Tryz.func132 Tryz.ntmps132 fun B W hr=>?_
 repeat' (first|refine pa ?_|(refine pb ?_ ?_<;>intro hg)|(refine z9 ?_;(first|refine Zaa h1 ?_|refine Zaa h2 ?_))|refine po ?_|fail)
 exact pfr
theorem Zjj (s:List UInt8) (hs:s.length≤1048576):AC Tryz.prog 200 [.t (.str s)] (.t (.str (Zau s))):=by
 have hmx:maxLen=9223372036854775807:=rfl
 refine AC.go Tryz.func200 Tryz.ntmps200 fun B W hr=>?_
 repeat' (first|refine pa ?_|(refine pb ?_ ?_<;>intro hg)|refine po ?_|fail)
 refine aW.loopF rfl (fun q:Nat×List UInt8=>[(4,.t (.int .i64 q.1)),(3,.t (.str q.2))]) [(0,_)] (fun q=>[]) [] (fun q=>q.1≤s.length∧q.2.length≤13 * q.1∧q.2++Zau (s.drop q.1)=Zau s) (fun q=>s.length - q.1) (0,[]) ⟨Nat.zero_le _,Nat.zero_le _,rfl⟩ (by (exact plei)) ?_
 rintro ⟨i,out⟩ hI
 obtain ⟨hi,hle,he⟩:i≤s.length∧out.length≤13 * i∧out++Zau (s.drop i)=Zau s:=hI
 refine pln ?_
 by_cases his:i < s.length
 ·have hp:=ZmV his
  have hmo:=ZkR his
  have hz1:=Zmo hi
  have hz2:=fun k=>@zEnd_at s i k
  have hz3:=@zEnd_end s i
  generalize hm:zEnd s i=m at hp hmo hz1 hz2 hz3
  have ho1:=Zl9 hz1.2
  have ho2:=fun k=>@oEnd_at s m k
  have ho3:=@oEnd_end s m
  generalize ho:oEnd s m=o at hp hmo ho1 ho2 ho3
  repeat' (first|(refine pth ?_)|((fail_if_success (with_reducible first|refine pA1 5 ?_|refine pA2 5 ?_|refine pA3 5 ?_));(first|refine pc ?_|(refine pbc ?_ ?_<;>intro hg)))|(first|refine pl ?_|(refine pbl ?_ ?_<;>intro hg))|(refine po ?_)|fail)
  refine aW.joinF rfl (fun z:Nat=>[(4,.t (.int .i64 z))]) [(0,_),(3,_),(5,_)] (fun z:Nat=>[]) [] (fun z:Nat=>z=m) i (by (exact plei)) ?_ ?_
  ·refine aW.loopF rfl (fun q:Nat=>[(4,.t (.int .i64 q))]) [(0,_),(3,_),(5,_)] (fun q=>[]) [] (fun q=>i≤q∧q≤m) (fun q=>m - q) i ⟨Nat.le_refl _,hz1.1⟩ (by (exact plei)) ?_
   rintro k hI
   obtain ⟨hk1,hk2⟩:i≤k∧k≤m:=hI
   refine pln ?_
   by_cases hkm:k < m
   ·have h0:=hz2 k hk1 hkm
    repeat' (first|refine pa ?_|(refine pb ?_ ?_<;>intro hg)|refine po ?_|fail)
    exact ⟨k + 1,⟨by omega,by omega⟩,by omega,by (exact ple)⟩
   ·obtain rfl:k=m:=by omega
    by_cases hkl:k < s.length
    ·have h0:=hz3 hkl
     repeat' (first|refine pa ?_|(refine pb ?_ ?_<;>intro hg)|refine po ?_|fail)
     exact .inl ⟨rfl,k,rfl,by (exact ple)⟩
    ·repeat' (first|refine pa ?_|(refine pb ?_ ?_<;>intro hg)|refine po ?_|fail)
     exact .inl ⟨rfl,k,rfl,by (exact ple)⟩
  rintro z hz
  have hz:m=z:=Eq.symm hz
  subst hz
  refine pln ?_
  repeat' (first|(refine pth ?_)|((fail_if_success (with_reducible first|refine pA1 9 ?_|refine pA2 9 ?_|refine pA3 9 ?_));(first|refine pc ?_|(refine pbc ?_ ?_<;>intro hg)))|(first|refine pl ?_|(refine pbl ?_ ?_<;>intro hg))|(refine po ?_)|fail)
  refine aW.joinF rfl (fun z:Nat=>[(4,.t (.int .i64 z))]) [(0,_),(3,_),(5,_),(6,_)] (fun z:Nat=>[]) [] (fun z:Nat=>z=o) m (by (exact plei)) ?_ ?_
  ·refine aW.loopF rfl (fun q:Nat=>[(4,.t (.int .i64 q))]) [(0,_),(3,_),(5,_),(6,_)] (fun q=>[]) [] (fun q=>m≤q∧q≤o) (fun q=>o - q) m ⟨Nat.le_refl _,ho1.1⟩ (by (exact plei)) ?_
   rintro k hI
   obtain ⟨hk1,hk2⟩:m≤k∧k≤o:=hI
   refine pln ?_
   by_cases hkm:k < o
   ·have h0:=ho2 k hk1 hkm
    repeat' (first|refine pa ?_|(refine pb ?_ ?_<;>intro hg)|refine po ?_|fail)
    exact ⟨k + 1,⟨by omega,by omega⟩,by omega,by (exact ple)⟩
   ·obtain rfl:k=o:=by omega
    by_cases hkl:k < s.length
    ·have h0:=ho3 hkl
     repeat' (first|refine pa ?_|(refine pb ?_ ?_<;>intro hg)|refine po ?_|fail)
     exact .inl ⟨rfl,k,rfl,by (exact ple)⟩
    ·repeat' (first|refine pa ?_|(refine pb ?_ ?_<;>intro hg)|refine po ?_|fail)
     exact .inl ⟨rfl,k,rfl,by (exact ple)⟩
  rintro z hz
  have hz:o=z:=Eq.symm hz
  subst hz
  refine pln ?_
  have hv:=ZbO ((m - i:Nat):Int)
  have hvl:=ZaA ((m - i:Nat):Int)
  obtain ⟨t,ht⟩:∃ t,t=List.take ((o:Int).toNat - (m:Int).toNat) (List.drop (m:Int).toNat s):=⟨_,rfl⟩
  have htl:t.length=o - m:=by rw [ht,List.length_take,List.length_drop];omega
  have htp:(s.take o).drop m=t:=by rw [ht,List.drop_take,Int.toNat_natCast,Int.toNat_natCast]
  have hw:=Zj6 t (by omega)
  have hwl:(Za1 t).length≤6 + (o - m):=by
   have:=ZaA (t.length:Int)
   rw [Za1,List.length_append]
   omega
  have hmi:((m - i:Nat):Int)=(m:Int) - i:=by omega
  rw [htp] at hp
  rw [hmi] at hv hvl hp
  rw [ht] at hw hwl hp
  have hwl2:=hwl
  rw [Int.toNat_natCast,Int.toNat_natCast] at hwl2
  repeat' (first|refine pa ?_|(refine pb ?_ ?_<;>intro hg)|(refine z9 ?_;(first|refine Zaa hv ?_|refine Zaa hw ?_))|refine po ?_|((apply pdq 11;(focus exact pdp);(focus ((apply pct 11 511 2;(focus (intro hd2;(apply pct 11 247 4;(focus (intro hd1;(refine pt0_ 0 ?_<;>refine pt0_ 1 ?_<;>refine pt0_ 4 ?_<;>refine pt0_ 5 ?_<;>refine pt0_ 6 ?_<;>refine ZkV 7 ?_<;>(refine pq1 2 ?_;(focus ((refine pop ?_;(refine z9 ?_;(first|refine Zaa hv ?_|refine Zaa hw ?_)))<;>(exact ptm hd1)))))));(case main=>(refine Zbh 3 ?_<;>(refine pq1 8 ?_;(focus ((refine pop ?_;(refine z9 ?_;(first|refine Zaa hv ?_|refine Zaa hw ?_)))<;>(exact ptm hd2)))))))));(case main=>(refine Zbh 9 ?_<;>refine pt1_ 10 ?_<;>(refine ZaI ?_;exact ZaJ))))))))|fail)
  refine ⟨(o,_),⟨hmo.2,?_,?_⟩,?_,by (exact ple)⟩
  ·show (out++_++_).length≤13 * o
   rw [List.length_append,List.length_append]
   omega
  ·show (out++_++_)++Zau (s.drop o)=Zau s
   rw [← he,hp]
   simp only [List.append_assoc]
  ·show s.length - o < s.length - i
   omega
 ·rw [List.drop_of_length_le (by omega),Zf6,List.append_nil] at he
  repeat' (first|refine pa ?_|(refine pb ?_ ?_<;>intro hg)|refine po ?_|fail)
  refine pfin ?_
  exact .inl (congrArg T.str he)
section
variable {c:Bool} {s t acc:List UInt8} {f:Nat} {p z m u:Int}
theorem ZjP (h:ZaY s p=some (t,u)):t.length≤s.length:=by
 unfold ZaY at h
 split at h
 ·split at h
  ·cases h
  ·cases h
   rw [List.length_take,List.length_drop]
   omega
 ·cases h
end
theorem ZeB (s:List UInt8) (hs:s.length≤1048576):AC Tryz.prog 226 [.t (.str s)] (.tup [.t (.str ((ZaN s).getD [])),.t (.bool (ZaN s).isSome)]):=by
 have hmx:maxLen=9223372036854775807:=rfl
 refine AC.go Tryz.func226 Tryz.ntmps226 fun B W hr=>?_
 repeat' (first|refine pa ?_|(refine pb ?_ ?_<;>intro hg)|refine po ?_|fail)
 refine aW.loopF rfl (fun q:Int×List UInt8=>[(5,.t (.int .i64 q.1)),(4,.t (.str q.2))]) [(0,_)] (fun q=>[]) [] (fun q=>0≤q.1∧q.1≤s.length∧q.2.length≤20000∧∃ f:Nat,(s.length:Int) + 1≤f + q.1∧unpZ false s f q.1 q.2=unpZ false s (s.length + 1) 0 []) (fun q=>(s.length - q.1).toNat) (0,[]) ⟨by decide,by show (0:Int)≤s.length;omega,by simp,s.length + 1,by show (s.length:Int) + 1≤((s.length + 1:Nat):Int) + 0;omega,rfl⟩ (by (exact plei)) ?_
 rintro ⟨p,acc⟩ hI
 obtain ⟨hp0,hp1,ha,f,hf,hu⟩:0≤p∧p≤s.length∧acc.length≤20000∧∃ f:Nat,(s.length:Int) + 1≤f + p∧unpZ false s f p acc=unpZ false s (s.length + 1) 0 []:=hI
 refine pln ?_
 obtain ⟨f,rfl⟩:∃ g,f=g + 1:=⟨f - 1,by omega⟩
 by_cases hps:p < s.length
 ·have hdv:=ZbN s p
  rcases hd:Zag s p with ⟨z,m,ok⟩
  rw [hd] at hdv
  dsimp only at hdv
  have htv:=Ziq s (p + m)
  cases ok with
  | false =>
   obtain ⟨hz0,hm0⟩:=Zdg hd
   rw [Zpo hps hd] at hu
   rw [Za9 hu.symm]
   repeat' (first|refine pa ?_|(refine pb ?_ ?_<;>intro hg)|(refine z9 ?_;(first|refine Zaa hdv ?_|refine Zaa htv ?_))|refine po ?_|fail)
   all_goals refine pfin ?_
   all_goals (exact pgiv)
  | true =>
   obtain ⟨_,g2,g3,g4,g5,g6,_⟩:=Zav hd
   match ht:ZaY s (p + m) with
   | none =>
    rw [Znk hps hd ht] at hu
    rw [Za9 hu.symm]
    rw [Zlf ht] at htv
    dsimp only at htv
    repeat' (first|refine pa ?_|(refine pb ?_ ?_<;>intro hg)|(refine z9 ?_;(first|refine Zaa hdv ?_|refine Zaa htv ?_))|refine po ?_|fail)
    all_goals refine pfin ?_
    all_goals (exact pgiv)
   | some (t,u) =>
    obtain ⟨k1,k2,k3,_⟩:=Zem ht
    rw [Zlg ht] at htv
    dsimp only at htv
    rw [Zpn hps hd ht] at hu
    have htl:t.length≤s.length:=ZjP ht
    by_cases hov2:20000 - (acc.length:Int) < z + (t.length:Int)
    ·rw [if_pos (.inl hov2)] at hu
     rw [Za9 hu.symm]
     repeat' (first|refine pa ?_|(refine pb ?_ ?_<;>intro hg)|(refine z9 ?_;(first|refine Zaa hdv ?_|refine Zaa htv ?_))|refine po ?_|fail)
     all_goals refine pfin ?_
     all_goals (exact pgiv)
    rw [if_neg (by intro h;rcases h with h|h;exact hov2 h;cases h.1)] at hu
    repeat' (first|refine pa ?_|(refine pb ?_ ?_<;>intro hg)|(refine z9 ?_;(first|refine Zaa hdv ?_|refine Zaa htv ?_))|refine po ?_|fail)
    rw [Zib]
    repeat' (first|refine pa ?_|(refine pb ?_ ?_<;>intro hg)|refine po ?_|fail)
    rw [Zbf]
    repeat' (first|refine pa ?_|(refine pb ?_ ?_<;>intro hg)|refine po ?_|fail)
    exact ⟨(p + m + u,_),⟨by show 0≤p + m + u;omega,by show p + m + u≤s.length;omega,by show (acc++List.replicate z.toNat 0++t).length≤20000;rw [List.length_append,List.length_append,List.length_replicate];omega,f,by show (s.length:Int) + 1≤f + (p + m + u);omega,hu⟩,by show (s.length - (p + m + u)).toNat < (s.length - p).toNat;omega,by (exact ple)⟩
 ·rw [Zni hps] at hu
  have hpk:=Zjj acc (by omega)
  by_cases heq:Zau acc=s
  ·rw [ZeT hu.symm heq]
   repeat' (first|refine pa ?_|(refine pb ?_ ?_<;>intro hg)|(refine z9 ?_;(refine Zaa hpk ?_))|refine po ?_|fail)
   all_goals first
    | (exfalso;simp [heq] at hg;done)
    | (refine pfin ?_;(exact pgiv);done)
  ·rw [Zfq hu.symm heq]
   repeat' (first|refine pa ?_|(refine pb ?_ ?_<;>intro hg)|(refine z9 ?_;(refine Zaa hpk ?_))|refine po ?_|fail)
   all_goals first
    | (exfalso;simp [heq] at hg;done)
    | (refine pfin ?_;(exact pgiv);done)
theorem Zqt (a b:List UInt8) (hb:b.length≤1048576):AC Tryz.prog 134 [.t (.str a),.t (.str b)] (.t (.str (Zkl a b))):=by
 have hmx:maxLen=9223372036854775807:=rfl
 have hv:=ZbO (b.length:Int)
 have hvl:=ZaA (b.length:Int)
 have hx:=ZlL a b hb
 have hz:=Zjj (ZbB a b) (by rw [ZcL];exact hb)
 have hzl:=Zqv (ZbB a b)
 rw [ZcL] at hzl
 refine AC.go Tryz.func134 Tryz.ntmps134 fun B W hr=>?_
 repeat' (first|refine pa ?_|(refine pb ?_ ?_<;>intro hg)|(refine z9 ?_;(first|refine Zaa hv ?_|refine Zaa hx ?_|refine Zaa hz ?_))|refine po ?_|fail)
 exact pfr
theorem Zim (a d:List UInt8) (hd:d.length≤1048576):AC Tryz.prog 177 [.t (.str a),.t (.str d)] (.tup [.t (.str ((Zar a d).getD [])),.t (.bool (Zar a d).isSome)]):=by
 have hv:=ZbN d 0
 rcases hdv:Zag d 0 with ⟨n,m,ok⟩
 rw [hdv] at hv
 dsimp only at hv
 cases ok with
 | false =>
  rw [show Zar a d=none by unfold Zar;rw [hdv]]
  refine AC.go Tryz.func177 Tryz.ntmps177 fun B W hr=>?_
  repeat' (first|refine pa ?_|(refine pb ?_ ?_<;>intro hg)|(refine z9 ?_;(refine Zaa hv ?_))|refine po ?_|fail)
  all_goals refine pfin ?_
  all_goals (exact pgiv)
 | true =>
  obtain ⟨_,g2,g3,g4,g5,g6,_⟩:=Zav hdv
  obtain ⟨k,rfl⟩:=Int.eq_ofNat_of_zero_le (show 0≤m by omega)
  have hkl:k≤d.length:=by omega
  have htk:List.take ((d.length:Int).toNat - (k:Int).toNat) (List.drop (k:Int).toNat d)=d.drop k:=by
   rw [Int.toNat_natCast,Int.toNat_natCast]
   exact List.take_of_length_le (by rw [List.length_drop];exact Nat.le_refl _)
  have hu:AC Tryz.prog 226 [.t (.str (d.drop k))] (.tup [.t (.str ((ZaN (d.drop k)).getD [])),.t (.bool (ZaN (d.drop k)).isSome)]):=by
   first
    | exact ZeB _
    | exact ZeB _ (by rw [List.length_drop];omega)
  match hz:ZaN (d.drop k) with
  | none =>
   rw [show Zar a d=none by unfold Zar;rw [hdv];simp only [Int.toNat_natCast,hz]]
   rw [hz,← htk] at hu
   dsimp only [Option.getD_none,Option.isSome_none] at hu
   refine AC.go Tryz.func177 Tryz.ntmps177 fun B W hr=>?_
   repeat' (first|refine pa ?_|(refine pb ?_ ?_<;>intro hg)|(refine z9 ?_;(first|refine Zaa hv ?_|refine Zaa hu ?_))|refine po ?_|fail)
   all_goals refine pfin ?_
   all_goals (exact pgiv)
  | some x =>
   have hxl:=(ZcK hz).2
   have hx:=ZlL a x (by omega)
   rw [show Zar a d=if (x.length:Int)=n then some (ZbB a x) else none by unfold Zar;rw [hdv];simp only [Int.toNat_natCast,hz]]
   rw [hz,← htk] at hu
   dsimp only [Option.getD_some,Option.isSome_some] at hu
   by_cases hn:(x.length:Int)=n
   ·rw [if_pos hn]
    refine AC.go Tryz.func177 Tryz.ntmps177 fun B W hr=>?_
    repeat' (first|refine pa ?_|(refine pb ?_ ?_<;>intro hg)|(refine z9 ?_;(first|refine Zaa hv ?_|refine Zaa hu ?_|refine Zaa hx ?_))|refine po ?_|fail)
    all_goals first
     | (exfalso;simp [hn] at hg;done)
     | (refine pfin ?_;(exact pgiv);done)
   ·rw [if_neg hn]
    refine AC.go Tryz.func177 Tryz.ntmps177 fun B W hr=>?_
    repeat' (first|refine pa ?_|(refine pb ?_ ?_<;>intro hg)|(refine z9 ?_;(first|refine Zaa hv ?_|refine Zaa hu ?_|refine Zaa hx ?_))|refine po ?_|fail)
    all_goals first
     | (exfalso;simp [hn] at hg;done)
     | (refine pfin ?_;(exact pgiv);done)
end Go.Proofs.YthfaongbpdnlnaaGreat
