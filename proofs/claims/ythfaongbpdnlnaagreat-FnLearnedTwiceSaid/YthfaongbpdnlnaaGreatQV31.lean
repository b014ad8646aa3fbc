/- What is proved: the worlds that a peer has saved. Conditions: as each lemma says. -/
import Derived.Test.YthfaongbpdnlnaaGreatQPC
import Derived.Test.YthfaongbpdnlnaaGreatT90
import Derived.Test.YthfaongbpdnlnaaGreatT75
import Derived.Test.YthfaongbpdnlnaaGreatT82
namespace Go.Proofs.YthfaongbpdnlnaaGreat
set_option maxHeartbeats 4000000
set_option maxRecDepth 20000
set_option linter.unusedSimpArgs false
set_option linter.unusedVariables false
open Go.RowKit Ab
theorem Zdd (l:Lv) (tick seed:Int) (sc:List Int) (bs:List Bd):AC Tryz.prog 79 [.agg [.t (.lst true 9 (Zai l)),.t (.int .i64 tick),.t (.int .i64 seed),.t (ints 3 sc),.t (.lst true 114 (bs.map bodyC))]] (.t (.bool (ZaW ⟨l,tick,seed,sc,bs⟩))):=by
 have hL:=Zfs l
 cases hl:Zbc l with
 | false =>
  rw [hl] at hL
  rw [ZaF fun h=>by have:=ZaU.2 h.level;rw [hl] at this;cases this]
  refine AC.go Tryz.func79 Tryz.ntmps79 fun B W hr=>?_
  repeat' (first|refine pa ?_|(refine pb ?_ ?_<;>intro hg)|(refine z9 ?_;(first|refine Zaa hL ?_|refine Zaa (Zah _ _ _) ?_))|refine po ?_|fail)
  exact pfr
 | true =>
  rw [hl] at hL
  have hl12:=(ZaU.1 hl).n12
  by_cases ht:0≤tick∧tick≤100000
  ·have i1:=Zae.2 ht
   by_cases hs:0≤seed∧seed≤65535
   ·have i2:=Zae.2 hs
    by_cases hn:1≤(sc.length:Int)∧(sc.length:Int)≤4
    ·have i3:=Zae.2 hn
     by_cases hm:(sc.length:Int)≤(bs.length:Int)∧(bs.length:Int)≤24
     ·have i4:=Zae.2 hm
      refine AC.go Tryz.func79 Tryz.ntmps79 fun B W hr=>?_
      repeat' (first|refine pa ?_|(refine pb ?_ ?_<;>intro hg)|(refine z9 ?_;(first|refine Zaa hL ?_|refine Zaa (Zah _ _ _) ?_))|refine po ?_|fail)
      refine aW.loopF rfl (fun q:Nat=>[(4,.t (.int .i64 (q:Nat)))]) [(3,_),(1,_)] (fun q=>[]) [(1,_,_)] (fun q=>q≤sc.length∧ScP sc q) (fun q=>sc.length - q) 0 ⟨Nat.zero_le _,fun k hk=>absurd hk (Nat.not_lt_zero _)⟩ (by (exact plei)) ?_
      rintro q hI
      obtain ⟨hq,hsc⟩:q≤sc.length∧ScP sc q:=hI
      refine pln ?_
      by_cases hqn:q < sc.length
      ·by_cases hq1:0≤sc.getD q default∧sc.getD q default≤1000000
       ·have i5:=Zae.2 hq1
        repeat' (first|refine pa ?_|(refine pb ?_ ?_<;>intro hg)|(refine z9 ?_;(refine Zaa (Zah _ _ _) ?_))|refine po ?_|fail)
        exact ⟨q + 1,⟨hqn,hsc.succ hq1⟩,by show sc.length - (q + 1) < sc.length - q;omega,by (exact ple)⟩
       ·have i5:=Zb3 hq1
        rw [ZaF fun h=>hq1 (h.scores q hqn)]
        repeat' (first|refine pa ?_|(refine pb ?_ ?_<;>intro hg)|(refine z9 ?_;(refine Zaa (Zah _ _ _) ?_))|refine po ?_|fail)
        exact pfr
      ·obtain rfl:q=sc.length:=by omega
       repeat' (first|refine pa ?_|(refine pb ?_ ?_<;>intro hg)|refine po ?_|fail)
       refine aW.loopF rfl (fun q:Nat=>[(5,.t (.int .i64 (q:Nat)))]) [(3,_),(1,_)] (fun q=>[]) [(1,_,_)] (fun q=>q≤bs.length∧ZjQ l sc.length bs q) (fun q=>bs.length - q) 0 ⟨Nat.zero_le _,fun k hk=>absurd hk (Nat.not_lt_zero _)⟩ (by (exact plei)) ?_
       rintro q hI
       obtain ⟨hq,hbs⟩:q≤bs.length∧ZjQ l sc.length bs q:=hI
       refine pln ?_
       by_cases hqn:q < bs.length
       ·have hB:=ZlM l sc.length (bs.getD q default) (by omega) (by omega)
        cases hv:Zhw l sc.length (bs.getD q default) with
        | false =>
         rw [hv] at hB
         rw [ZaF fun h=>by have:=ZbV.2 (h.bodies q hqn);rw [hv] at this;cases this]
         repeat' (first|refine pa ?_|(refine pb ?_ ?_<;>intro hg)|(refine z9 ?_;(refine Zaa hB ?_))|refine po ?_|fail)
         exact pfr
        | true =>
         rw [hv] at hB
         by_cases hp:q < sc.length
         ·by_cases hk0:(bs.getD q default).kind=0
          ·have hx:(!(decide ((bs.getD q default).kind=0) == decide ((q:Int) < (sc.length:Int))))=false:=by rw [decide_eq_true hk0,decide_eq_true (show (q:Int) < (sc.length:Int) by omega)];rfl
           by_cases ho:(bs.getD q default).owner=q
           ·repeat' (first|refine pa ?_|(refine pb ?_ ?_<;>intro hg)|(refine z9 ?_;(refine Zaa hB ?_))|refine po ?_|fail)
            exact ⟨q + 1,⟨hqn,hbs.succ (ZbV.1 hv) (fun _=>⟨hk0,ho⟩) (fun h=>absurd hp (Nat.not_lt.2 h))⟩,by show bs.length - (q + 1) < bs.length - q;omega,by (exact ple)⟩
           ·rw [ZaF fun h=>ho (h.players q hp).2]
            repeat' (first|refine pa ?_|(refine pb ?_ ?_<;>intro hg)|(refine z9 ?_;(refine Zaa hB ?_))|refine po ?_|fail)
            exact pfr
          ·have hx:(!(decide ((bs.getD q default).kind=0) == decide ((q:Int) < (sc.length:Int))))=true:=by rw [decide_eq_false hk0,decide_eq_true (show (q:Int) < (sc.length:Int) by omega)];rfl
           rw [ZaF fun h=>hk0 (h.players q hp).1]
           repeat' (first|refine pa ?_|(refine pb ?_ ?_<;>intro hg)|(refine z9 ?_;(refine Zaa hB ?_))|refine po ?_|fail)
           exact pfr
         ·by_cases hk0:(bs.getD q default).kind=0
          ·have hx:(!(decide ((bs.getD q default).kind=0) == decide ((q:Int) < (sc.length:Int))))=true:=by rw [decide_eq_true hk0,decide_eq_false (show ¬ (q:Int) < (sc.length:Int) by omega)];rfl
           rw [ZaF fun h=>h.others q (Nat.not_lt.1 hp) hqn hk0]
           repeat' (first|refine pa ?_|(refine pb ?_ ?_<;>intro hg)|(refine z9 ?_;(refine Zaa hB ?_))|refine po ?_|fail)
           exact pfr
          ·have hx:(!(decide ((bs.getD q default).kind=0) == decide ((q:Int) < (sc.length:Int))))=false:=by rw [decide_eq_false hk0,decide_eq_false (show ¬ (q:Int) < (sc.length:Int) by omega)];rfl
           repeat' (first|refine pa ?_|(refine pb ?_ ?_<;>intro hg)|(refine z9 ?_;(refine Zaa hB ?_))|refine po ?_|fail)
           exact ⟨q + 1,⟨hqn,hbs.succ (ZbV.1 hv) (fun h=>absurd h hp) (fun _=>hk0)⟩,by show bs.length - (q + 1) < bs.length - q;omega,by (exact ple)⟩
       ·obtain rfl:q=bs.length:=by omega
        rw [Zlk hl ht hs (by omega) hsc (by omega) hbs]
        repeat' (first|refine pa ?_|(refine pb ?_ ?_<;>intro hg)|refine po ?_|fail)
        exact pfr
     ·have i4:=Zb3 hm
      rw [ZaF fun h=>hm (by have:=h.m;show (sc.length:Int)≤bs.length∧(bs.length:Int)≤24;have h1:sc.length≤bs.length:=this.1;have h2:bs.length≤24:=this.2;omega)]
      refine AC.go Tryz.func79 Tryz.ntmps79 fun B W hr=>?_
      repeat' (first|refine pa ?_|(refine pb ?_ ?_<;>intro hg)|(refine z9 ?_;(first|refine Zaa hL ?_|refine Zaa (Zah _ _ _) ?_))|refine po ?_|fail)
      exact pfr
    ·have i3:=Zb3 hn
     rw [ZaF fun h=>hn (by have h1:1≤sc.length:=h.n.1;have h2:sc.length≤4:=h.n.2;omega)]
     refine AC.go Tryz.func79 Tryz.ntmps79 fun B W hr=>?_
     repeat' (first|refine pa ?_|(refine pb ?_ ?_<;>intro hg)|(refine z9 ?_;(first|refine Zaa hL ?_|refine Zaa (Zah _ _ _) ?_))|refine po ?_|fail)
     exact pfr
   ·have i2:=Zb3 hs
    rw [ZaF fun h=>hs h.seed]
    refine AC.go Tryz.func79 Tryz.ntmps79 fun B W hr=>?_
    repeat' (first|refine pa ?_|(refine pb ?_ ?_<;>intro hg)|(refine z9 ?_;(first|refine Zaa hL ?_|refine Zaa (Zah _ _ _) ?_))|refine po ?_|fail)
    exact pfr
  ·have i1:=Zb3 ht
   rw [ZaF fun h=>ht h.tick]
   refine AC.go Tryz.func79 Tryz.ntmps79 fun B W hr=>?_
   repeat' (first|refine pa ?_|(refine pb ?_ ?_<;>intro hg)|(refine z9 ?_;(first|refine Zaa hL ?_|refine Zaa (Zah _ _ _) ?_))|refine po ?_|fail)
   exact pfr
theorem Zgp (p:Pr) (hn:p.tracks.length≤1048576):AC Tryz.prog 26 [.agg (pcR p)] (.t (.bool (Zb9 p))):=by
 have hto:=Zds p.tracks
 have hwb:AC Tryz.prog 85 _ (.t (.bool (ZaW p.base))):=Zcg p.base.level p.base.tick p.base.seed p.base.scores p.base.bodies
 have hwn:AC Tryz.prog 85 _ (.t (.bool (ZaW p.now))):=Zcg p.now.level p.now.tick p.now.seed p.now.scores p.now.bodies
 have hsl:=Zi4 p.base.level p.now.level
 have hfo:=Zhg p.ft p.fp p.fa p.tracks.length (by omega)
 by_cases c0:Zan p.tracks=true
 case neg =>
  rw [Bool.not_eq_true] at c0
  rw [c0] at hto
  rw [Zbg fun h=>by have h2:Zan p.tracks=true:=h.tracks;rw [c0] at h2;cases h2]
  refine AC.go Tryz.func26 Tryz.ntmps26 fun B W hr=>?_
  dsimp only [pcR]
  repeat' (first|refine pa ?_|(refine pb ?_ ?_<;>intro hg)|(refine z9 ?_;(first|refine Zaa hto ?_|refine Zaa hwb ?_|refine Zaa hwn ?_|refine Zaa hsl ?_|refine Zaa hfo ?_|refine Zaa ((Zaq _ _ _)) ?_))|refine po ?_|fail)
  exact pfr
 rw [c0] at hto
 have hlen:=Zbi c0
 by_cases c1:ZaW p.base=true
 case neg =>
  rw [Bool.not_eq_true] at c1
  rw [c1] at hwb
  rw [Zbg fun h=>by have h2:ZaW p.base=true:=Zax.2 h.base;rw [c1] at h2;cases h2]
  refine AC.go Tryz.func26 Tryz.ntmps26 fun B W hr=>?_
  dsimp only [pcR]
  repeat' (first|refine pa ?_|(refine pb ?_ ?_<;>intro hg)|(refine z9 ?_;(first|refine Zaa hto ?_|refine Zaa hwb ?_|refine Zaa hwn ?_|refine Zaa hsl ?_|refine Zaa hfo ?_|refine Zaa ((Zaq _ _ _)) ?_))|refine po ?_|fail)
  exact pfr
 rw [c1] at hwb
 have tb:0≤p.base.tick∧p.base.tick≤100000:=(Zax.1 c1).tick
 by_cases c2:ZaW p.now=true
 case neg =>
  rw [Bool.not_eq_true] at c2
  rw [c2] at hwn
  rw [Zbg fun h=>by have h2:ZaW p.now=true:=Zax.2 h.now;rw [c2] at h2;cases h2]
  refine AC.go Tryz.func26 Tryz.ntmps26 fun B W hr=>?_
  dsimp only [pcR]
  repeat' (first|refine pa ?_|(refine pb ?_ ?_<;>intro hg)|(refine z9 ?_;(first|refine Zaa hto ?_|refine Zaa hwb ?_|refine Zaa hwn ?_|refine Zaa hsl ?_|refine Zaa hfo ?_|refine Zaa ((Zaq _ _ _)) ?_))|refine po ?_|fail)
  exact pfr
 rw [c2] at hwn
 have tn:0≤p.now.tick∧p.now.tick≤100000:=(Zax.1 c2).tick
 refine AC.go Tryz.func26 Tryz.ntmps26 fun B W hr=>?_
 dsimp only [pcR]
 repeat' (first|refine pa ?_|(refine pb ?_ ?_<;>intro hg)|(refine z9 ?_;(first|refine Zaa hto ?_|refine Zaa hwb ?_|refine Zaa hwn ?_|refine Zaa hsl ?_|refine Zaa hfo ?_|refine Zaa ((Zaq _ _ _)) ?_))|refine po ?_|fail)
 all_goals try (
  refine pfin ?_
  refine .inl (congrArg T.bool (Eq.symm (Zbg fun h=>?_)))
  first|exact hg h.level|exact hg (of_decide_eq_true h.fault)|(rw [Zae.2 h.me] at hg;cases hg)|(rw [Zae.2 h.delay] at hg;cases hg)|(rw [Zae.2 h.ahead] at hg;cases hg)|(rw [Zae.2 h.seed] at hg;cases hg)|(rw [Zae.2 h.rolls] at hg;cases hg)|(rw [Zae.2 h.again] at hg;cases hg)|(rw [Zae.2 h.lead] at hg;cases hg)|(have a1:=h.nb;have a2:=h.nn;have a3:=h.used;have a4:=h.saves;simp only [Bool.not_eq_true',decide_eq_false_iff_not] at hg;omega)|(have a1:=h.nb;have a2:=h.nn;have a3:=h.used;have a4:=h.saves;exact hg (by omega))
  done)
 rename_i g3 g4 g5 g6 g7 g8 g9 g10 g11 g12 g13 g14
 have c3:decide (p.base.level=p.now.level)=true:=decide_eq_true (by simpa using g3)
 have d4:p.base.scores.length=p.tracks.length:=by first|(have q_:=g4;simp only [Bool.not_eq_false',decide_eq_true_eq] at q_;omega)|omega
 have d5:p.now.scores.length=p.tracks.length:=by first|(have q_:=g5;simp only [Bool.not_eq_false',decide_eq_true_eq] at q_;omega)|omega
 have c6:ZcX p.ft p.fp p.fa p.tracks.length=true:=decide_eq_true (Classical.not_not.1 g6)
 have d7:0≤p.me∧p.me≤(p.tracks.length:Int) - 1:=Zae.1 (by simpa using g7)
 have d8:0≤p.delay∧p.delay≤5:=Zae.1 (by simpa using g8)
 have d9:1≤p.ahead∧p.ahead≤8:=Zae.1 (by simpa using g9)
 have d10:0≤p.seed∧p.seed≤65535:=Zae.1 (by simpa using g10)
 have d11:0≤p.rolls∧p.rolls≤1000000:=Zae.1 (by simpa using g11)
 have d12:0≤p.again∧p.again≤1000000:=Zae.1 (by simpa using g12)
 have d13:0≤p.now.tick - p.base.tick∧p.now.tick - p.base.tick≤p.ahead:=Zae.1 (by simpa using g13)
 have d14:(p.used.length:Int)=p.now.tick - p.base.tick:=by first|(have q_:=g14;simp only [Bool.not_eq_false',decide_eq_true_eq] at q_;omega)|omega
 have d15:(p.saves.length:Int)=p.now.tick - p.base.tick:=by first|(have q_:=hg;simp only [Bool.not_eq_false',decide_eq_true_eq] at q_;omega)|omega
 clear g3 g4 g5 g6 g7 g8 g9 g10 g11 g12 g13 g14 hg
 obtain ⟨m,hme⟩:=Int.eq_ofNat_of_zero_le d7.1
 have hm:m < p.tracks.length:=by omega
 have hmt:p.me.toNat=m:=by rw [hme];rfl
 refine aW.loopF rfl (fun q:Nat=>[(122,.t (.int .i64 (q:Nat)))]) [(121,_),(120,_),(3,_),(1,_)] (fun q=>[]) [(1,_,_)] (fun q=>q≤p.used.length∧∀ k,k < q→ZbD (p.used.getD k default) p.tracks.length=true) (fun q=>p.used.length - q) 0 ⟨Nat.zero_le _,fun k hk=>absurd hk (Nat.not_lt_zero _)⟩ (by (exact plei)) ?_
 rintro q hI
 obtain ⟨hq,hrw⟩:q≤p.used.length∧∀ k,k < q→ZbD (p.used.getD k default) p.tracks.length=true:=hI
 refine pln ?_
 by_cases hqn:q < p.used.length
 ·have hro:=Zhk (p.used.getD q default) p.tracks.length
  cases hv:ZbD (p.used.getD q default) p.tracks.length with
  | false =>
   rw [hv] at hro
   rw [Zbg fun h=>by have:=h.rows q hqn;rw [hv] at this;cases this]
   repeat' (first|refine pa ?_|(refine pb ?_ ?_<;>intro hg)|(refine z9 ?_;(refine Zaa hro ?_))|refine po ?_|fail)
   exact pfr
  | true =>
   rw [hv] at hro
   repeat' (first|refine pa ?_|(refine pb ?_ ?_<;>intro hg)|(refine z9 ?_;(refine Zaa hro ?_))|refine po ?_|fail)
   exact ⟨q + 1,⟨hqn,Zjn hrw hv⟩,by show p.used.length - (q + 1) < p.used.length - q;omega,by (exact ple)⟩
 obtain rfl:q=p.used.length:=by omega
 repeat' (first|refine pa ?_|(refine pb ?_ ?_<;>intro hg)|refine po ?_|fail)
 refine aW.loopF rfl (fun q:Nat=>[(134,.t (.int .i64 (q:Nat)))]) [(133,_),(132,_),(3,_),(1,_)] (fun q=>[]) [(1,_,_)] (fun q=>q≤p.saves.length∧∀ k,k < q→(p.saves.getD k default).1=p.base.tick + (k:Int)) (fun q=>p.saves.length - q) 0 ⟨Nat.zero_le _,fun k hk=>absurd hk (Nat.not_lt_zero _)⟩ (by (exact plei)) ?_
 rintro q hI
 obtain ⟨hq,hsv⟩:q≤p.saves.length∧∀ k,k < q→(p.saves.getD k default).1=p.base.tick + (k:Int):=hI
 refine pln ?_
 by_cases hqn:q < p.saves.length
 ·by_cases hv:(p.saves.getD q default).1=p.base.tick + (q:Int)
  ·repeat' (first|refine pa ?_|(refine pb ?_ ?_<;>intro hg)|refine po ?_|fail)
   exact ⟨q + 1,⟨hqn,Zjn hsv hv⟩,by show p.saves.length - (q + 1) < p.saves.length - q;omega,by (exact ple)⟩
  ·rw [Zbg fun h=>hv (h.ticks q hqn)]
   repeat' (first|refine pa ?_|(refine pb ?_ ?_<;>intro hg)|refine po ?_|fail)
   exact pfr
 obtain rfl:q=p.saves.length:=by omega
 have hkt:=ZdB p.tracks
 by_cases f1:p.base.tick≤Zbe p.tracks
 case neg =>
  rw [Zbg fun h=>f1 h.known]
  repeat' (first|refine pa ?_|(refine pb ?_ ?_<;>intro hg)|(refine z9 ?_;(refine Zaa hkt ?_))|refine po ?_|((apply pdq 32;(focus exact pdp);(focus ((apply pct 32 63 26;(focus (intro hd1;(refine ZaC 0 ?_<;>refine ZaC 1 ?_<;>refine pt7_ 2 ?_<;>refine ZaC 3 ?_<;>refine pt7_ 4 ?_<;>(refine pq1 5 ?_;(focus ((refine pop ?_;(refine z9 ?_;(refine Zaa hkt ?_)))<;>(exact ptm hd1)))))));(case main=>(refine Zbh 6 ?_<;>refine pt0_ 7 ?_<;>refine ZaK 8 ?_<;>refine pg7_ 9 ?_<;>refine ZaK 10 ?_<;>refine pg7_ 11 ?_<;>refine Zf8 12 ?_<;>refine ZaK 13 ?_<;>refine pg7_ 14 ?_<;>refine ZkT 15 ?_<;>refine ZaK 16 ?_<;>refine ZaK 17 ?_<;>refine pg7_ 18 ?_<;>refine ZcA 19 ?_<;>refine pt2_ 20 ?_<;>refine pt0_ 21 ?_<;>refine ZaK 22 ?_<;>refine pg7_ 23 ?_<;>refine ZkT 24 ?_<;>refine ZaK 25 ?_<;>refine ZaK 26 ?_<;>refine pg7_ 27 ?_<;>refine ZcA 28 ?_<;>refine ZcA 29 ?_<;>refine pt2_ 30 ?_<;>refine pt1_ 31 ?_<;>(refine ZaI ?_;exact ZaJ))))))))|fail)
  exact pfr
 by_cases f2:p.now.tick≤((p.tracks.getD m default).length:Int)
 case neg =>
  rw [Zbg fun h=>f2 (by have:=h.mine;rwa [hmt] at this)]
  repeat' (first|refine pa ?_|(refine pb ?_ ?_<;>intro hg)|refine ZnM ?_|(refine z9 ?_;(refine Zaa hkt ?_))|refine po ?_|(refine T67d1 ?_)|fail)
  exact pfr
 by_cases f3:(p.sums.length:Int)=p.base.tick + 1
 case neg =>
  rw [Zbg fun h=>f3 h.sums]
  repeat' (first|refine pa ?_|(refine pb ?_ ?_<;>intro hg)|refine ZnM ?_|(refine z9 ?_;(refine Zaa hkt ?_))|refine po ?_|(refine T67d1 ?_)|fail)
  refine pfin ?_
  exact .inl (congrArg T.bool (decide_eq_false f3))
 rw [Zbq.2 ⟨c0,Zax.1 c1,Zax.1 c2,of_decide_eq_true c3,d4,d5,c6,d7,d8,d9,d10,d11,d12,d13,d14,d15,hrw,hsv,f1,by rw [hmt];exact f2,f3⟩]
 repeat' (first|refine pa ?_|(refine pb ?_ ?_<;>intro hg)|refine ZnM ?_|(refine z9 ?_;(refine Zaa hkt ?_))|refine po ?_|(refine T67d1 ?_)|fail)
 refine pfin ?_
 exact .inl (congrArg T.bool (decide_eq_true f3))
theorem T83d1 {X Y:Prop} (h:Y) (r:Hld Y→X:=by intro h;exact pdr [5,7] 16 (by (apply pct 16 65535 0;(focus (intro hd2;(apply pct 16 4095 4;(focus (intro hd1;(refine ZaC 0 ?_<;>refine pt7_ 1 ?_<;>refine ZaC 2 ?_<;>refine pt7_ 3 ?_<;>refine ZaC 4 ?_<;>refine pt7_ 5 ?_<;>refine ZaC 6 ?_<;>refine pt7_ 7 ?_<;>refine Za7 8 ?_<;>refine ZaC 10 ?_<;>refine pt7_ 11 ?_<;>(refine pq1 9 ?_;(focus ((refine pop ?_;refine pk7 ?_)<;>(exact ptm hd1)))))));(case main=>(refine Zbh 12 ?_<;>refine Ziv 13 ?_<;>refine Za7 14 ?_<;>(refine pq1 15 ?_;(focus ((refine pop ?_;refine pk8 ?_)<;>(exact ptm hd2)))))))));(case main=>((refine ZaI ?_;exact ZaJ))))) h.out):X:=r ⟨h⟩
theorem Zjk (w:Wd) (row:List Int) (h1:w.level.length≤1048576) (h2:w.scores.length≤1048576) (h3:w.bodies.length≤1048576) (v:Wd) (hv:v=ZbY w row):AC Tryz.prog 24 [.agg [.t (.lst true 9 (Zai w.level)),.t (.int .i64 w.tick),.t (.int .i64 w.seed),.t (ints 3 w.scores),.t (.lst true 114 (w.bodies.map bodyC))],.t (ints 3 row)] (.agg [.fr true 9 (Zai v.level),.t (.int .i64 v.tick),.t (.int .i64 v.seed),.fr true 3 (Zak v.scores),.fr true 114 (v.bodies.map bodyC)]):=by
 have hcw:=Zft w h1 h2 h3
 have hwo:AC Tryz.prog 79 [.agg [.t (.lst true 9 (Zai w.level)),.t (.int .i64 w.tick),.t (.int .i64 w.seed),.t (ints 3 w.scores),.t (.lst true 114 (w.bodies.map bodyC))]] (.t (.bool (ZaW w))):=Zdd w.level w.tick w.seed w.scores w.bodies
 have hro:=ZgM row w.scores.length
 by_cases h:ZaV w
 case neg =>
  rw [ZaF h] at hwo
  rw [ZdA fun e=>h e.1] at hv
  subst hv
  refine AC.go Tryz.func24 Tryz.ntmps24 fun B W hr=>?_
  repeat' (first|refine pa ?_|(refine pb ?_ ?_<;>intro hg)|(refine z9 ?_;(first|refine Zaa hwo ?_|refine Zaa hro ?_|refine pz3 hcw ?_))|refine po ?_|fail)
  exact pfg
 by_cases ht:w.tick=100000
 ·rw [Zax.2 h] at hwo
  rw [ZdA fun e=>e.2.1 ht] at hv
  subst hv
  refine AC.go Tryz.func24 Tryz.ntmps24 fun B W hr=>?_
  repeat' (first|refine pa ?_|(refine pb ?_ ?_<;>intro hg)|(refine z9 ?_;(first|refine Zaa hwo ?_|refine Zaa hro ?_|refine pz3 hcw ?_))|refine po ?_|fail)
  exact pfg
 cases hr:ZbD row w.scores.length with
 | false =>
  rw [Zax.2 h] at hwo
  rw [hr] at hro
  rw [ZdA fun e=>by rw [hr] at e;cases e.2.2] at hv
  subst hv
  refine AC.go Tryz.func24 Tryz.ntmps24 fun B W hr=>?_
  repeat' (first|refine pa ?_|(refine pb ?_ ?_<;>intro hg)|(refine z9 ?_;(first|refine Zaa hwo ?_|refine Zaa hro ?_|refine pz3 hcw ?_))|refine po ?_|fail)
  exact pfg
 | true =>
  rw [Zax.2 h] at hwo
  rw [hr] at hro
  have hst:=ZlP w v row hv h ht hr
  have hvl:v.level=w.level:=by
   rw [hv,ZdZ h ht hr]
   unfold goV Zdl
   split
   ·rfl
   ·split<;>rfl
  rw [hvl]
  refine AC.go Tryz.func24 Tryz.ntmps24 fun B W hr=>?_
  repeat' (first|refine pa ?_|(refine pb ?_ ?_<;>intro hg)|(refine z9 ?_;(first|refine Zaa hwo ?_|refine Zaa hro ?_|refine pz3 hcw ?_|(refine Zp4 (m:=[(0,_,_),(1,_,_),(2,_,_),(3,_,_),(7016,7005,0)]) (hst) (fun x hx=>?_);refine pmk ?_)))|refine po ?_|fail)
  exact pfg
def ZbA (v w:Wd) (t p a:Int):Wd:=if ZcX t p a w.scores.length=true∧v.tick=t∧w.tick < t then { v with scores:=v.scores.set p.toNat (if 1000000 < v.scores.getD p.toNat default + a then 1000000 else v.scores.getD p.toNat default + a) } else v
theorem Zqb {l:Lv} {t s:Int} {sc:List Int} {bs:List Bd}:(Zdl l t s sc bs).scores=sc:=by
 unfold Zdl
 split
 ·rfl
 ·split<;>rfl
theorem Zmj {w:Wd} {row:List Int}:(ZbY w row).scores.length=w.scores.length:=by
 by_cases h:ZaV w∧w.tick ≠ 100000∧ZbD row w.scores.length=true
 ·rw [ZdZ h.1 h.2.1 h.2.2]
  unfold goV
  rw [Zqb]
  exact (Zm8 row h.1).1.sc.1
 ·rw [ZdA h]
theorem Zlb {w:Wd} {row:List Int} (h:(ZbY w row).tick ≠ w.tick):ZaV w:=by
 refine Classical.byContradiction fun hn=>h ?_
 rw [ZdA fun e=>hn e.1]
theorem ZdQ {v w:Wd} {t p a:Int} (h:¬ (ZcX t p a w.scores.length=true∧v.tick=t∧w.tick < t)):ZbA v w t p a=v:=if_neg h
theorem Zif (w:Wd) (row:List Int) (t p a:Int) (h1:w.level.length≤1048576) (h2:w.scores.length≤1048576) (h3:w.bodies.length≤1048576) (v:Wd) (hv:v=ZbA (ZbY w row) w t p a):AC Tryz.prog 72 [.agg [.t (.lst true 9 (Zai w.level)),.t (.int .i64 w.tick),.t (.int .i64 w.seed),.t (ints 3 w.scores),.t (.lst true 114 (w.bodies.map bodyC))],.t (ints 3 row),.agg [.t (.int .i64 t),.t (.int .i64 p),.t (.int .i64 a)]] (.agg [.fr true 9 (Zai v.level),.t (.int .i64 v.tick),.t (.int .i64 v.seed),.fr true 3 (Zak v.scores),.fr true 114 (v.bodies.map bodyC)]):=by
 have hst:=Zi2 w row h1 h2 h3 (ZbY w row) rfl
 have hfo:=Zhg t p a w.scores.length (by omega)
 have hsl:=Zmj (w:=w) (row:=row)
 have hok:=Zlb (w:=w) (row:=row)
 have hsp:ZaV w→ZaV (ZbY w row):=step_ok
 generalize ZbY w row=u at *
 have hul:=Zal u.scores
 have hwl:=Zal w.scores
 cases hf:ZcX t p a w.scores.length with
 | false =>
  rw [hf] at hfo
  rw [ZdQ fun e=>by rw [hf] at e;cases e.1] at hv
  subst hv
  refine AC.go Tryz.func72 Tryz.ntmps72 fun B W hr=>?_
  repeat' (first|refine pa ?_|(refine pb ?_ ?_<;>intro hg)|(refine z9 ?_;(first|refine Zaa hfo ?_|refine pz3 hst ?_))|refine po ?_|fail)
  exact pfg
 | true =>
  rw [hf] at hfo
  by_cases ht:u.tick=t
  case neg =>
   rw [ZdQ fun e=>ht e.2.1] at hv
   subst hv
   refine AC.go Tryz.func72 Tryz.ntmps72 fun B W hr=>?_
   repeat' (first|refine pa ?_|(refine pb ?_ ?_<;>intro hg)|(refine z9 ?_;(first|refine Zaa hfo ?_|refine pz3 hst ?_))|refine po ?_|fail)
   exact pfg
  by_cases hlt:w.tick < t
  case neg =>
   rw [ZdQ fun e=>hlt e.2.2] at hv
   subst hv
   refine AC.go Tryz.func72 Tryz.ntmps72 fun B W hr=>?_
   repeat' (first|refine pa ?_|(refine pb ?_ ?_<;>intro hg)|(refine z9 ?_;(first|refine Zaa hfo ?_|refine pz3 hst ?_))|refine po ?_|fail)
   exact pfg
  have hwp:=hsp (hok (by omega))
  obtain ⟨f1,f2,f3,f4,f5,f6⟩:=of_decide_eq_true (show decide (0≤t∧t≤400∧0≤p∧p < (w.scores.length:Int)∧0≤a∧a≤9)=true from hf)
  obtain ⟨m,rfl⟩:=Int.eq_ofNat_of_zero_le f3
  have hml:m < u.scores.length:=by omega
  have hsc:=hwp.scores m hml
  rw [show ZbA u w t m a={ u with scores:=u.scores.set m (if 1000000 < u.scores.getD m default + a then 1000000 else u.scores.getD m default + a) } from if_pos ⟨hf,ht,hlt⟩] at hv
  rw [show v.level=u.level by rw [hv],show v.tick=u.tick by rw [hv],show v.seed=u.seed by rw [hv],show Zak v.scores=(Zak u.scores).set m [.int .i64 (if 1000000 < u.scores.getD m default + a then 1000000 else u.scores.getD m default + a)] by rw [hv];exact ints_set,show v.bodies=u.bodies by rw [hv]]
  refine AC.go Tryz.func72 Tryz.ntmps72 fun B W hr=>?_
  repeat' (first|refine pa ?_|(refine pb ?_ ?_<;>intro hg)|(refine z9 ?_;(first|refine Zaa hfo ?_|refine pz3 hst ?_))|refine po ?_|(refine T83d1 ?_)|fail)
  exact pfg
def Zba (b:List UInt8):List Sv→Option (List UInt8)
 | []=>some b
 | s :: r=>(Zar b s.2).bind fun t=>Zba t r
theorem Zhz (b:List UInt8):∀ (xs ys:List Sv),Zba b (xs++ys)=(Zba b xs).bind fun t=>Zba t ys:=by
 intro xs
 induction xs generalizing b with
 | nil=>intro ys;rfl
 | cons x r ih =>
  intro ys
  show (Zar b x.2).bind (fun t=>Zba t (r++ys))=((Zar b x.2).bind fun t=>Zba t r).bind _
  cases Zar b x.2 with
  | none=>rfl
  | some t=>exact ih t ys
theorem ZhA {b t:List UInt8} (hb:b.length≤20000):∀ {xs:List Sv},Zba b xs=some t→t.length≤20000:=by
 intro xs
 induction xs generalizing b with
 | nil=>intro h;cases h;exact hb
 | cons x r ih =>
  intro h
  unfold Zba at h
  cases hd:Zar b x.2 with
  | none=>rw [hd] at h;cases h
  | some u=>rw [hd] at h;exact ih (Zis hd) h
def ZhY (p:Pr) (t:Int):Prop:=Zb9 p=true∧p.base.tick≤t∧t - p.base.tick < (p.saves.length:Int)
noncomputable instance (p:Pr) (t:Int):Decidable (ZhY p t):=Classical.propDecidable _
noncomputable def ZiT (p:Pr) (t:Int) (s:List UInt8):Option Wd:=(Za2 p.base.level s).bind fun w=>if w.tick=t∧w.scores.length=p.tracks.length then some w else none
noncomputable def Zbn (p:Pr) (t:Int):Option Wd:=if ZhY p t then (Zba (Zbp p.base) (p.saves.take ((t - p.base.tick).toNat + 1))).bind (ZiT p t) else none
theorem Zgc {p:Pr} {t:Int} {w:Wd} (h:Zbn p t=some w):ZhY p t∧ZaV w∧w.level=p.base.level∧w.tick=t∧w.scores.length=p.tracks.length:=by
 unfold Zbn at h
 split at h
 ·rename_i hs
  cases hb:Zba (Zbp p.base) (p.saves.take ((t - p.base.tick).toNat + 1)) with
  | none=>rw [hb] at h;cases h
  | some s =>
   rw [hb] at h
   replace h:(Za2 p.base.level s).bind _=some w:=h
   cases hr:Za2 p.base.level s with
   | none=>rw [hr] at h;cases h
   | some v =>
    rw [hr] at h
    replace h:(if v.tick=t∧v.scores.length=p.tracks.length then some v else none)=some w:=h
    split at h
    ·rename_i hc
     cases h
     obtain ⟨g1,g2,_⟩:=ZkZ hr
     exact ⟨hs,g1,g2,hc.1,hc.2⟩
    ·cases h
 ·cases h
theorem getD_take {α:Type} [Inhabited α] {xs:List α} {n k:Nat} (h:k < n):(xs.take n).getD k default=xs.getD k default:=by
 rw [List.getD_eq_getElem?_getD,List.getD_eq_getElem?_getD,List.getElem?_take,if_pos h]
theorem Zrs {α:Type} [Inhabited α] {xs:List α} {k:Nat}:(xs.drop 1).getD k default=xs.getD (k + 1) default:=by
 rw [List.getD_eq_getElem?_getD,List.getD_eq_getElem?_getD,List.getElem?_drop,Nat.add_comm]
noncomputable def ZhB (p:Pr) (t:Int) (w:Wd):Pr:={ p with now:=w,used:=p.used.take (t - p.base.tick).toNat,saves:=p.saves.take (t - p.base.tick).toNat }
noncomputable def Zcv (p:Pr) (t:Int):Option Pr:=(Zbn p t).map (ZhB p t)
theorem Zme {p:Pr} {t:Int} {w:Wd} (h:Zbn p t=some w):Zic (ZhB p t w):=by
 obtain ⟨⟨h1,h2,h3⟩,h4,h5,h6,h7⟩:=Zgc h
 have hp:=Zbq.1 h1
 have hs:=hp.saves
 have hu:=hp.used
 have hl:=hp.lead
 have hm:=hp.mine
 refine ⟨hp.tracks,hp.base,h4,h5.symm,hp.nb,h7,hp.fault,hp.me,hp.delay,hp.ahead,hp.seed,hp.rolls,hp.again,?_,?_,?_,fun k hk=>?_,fun k hk=>?_,hp.known,?_,hp.sums⟩
 ·show 0≤w.tick - p.base.tick∧w.tick - p.base.tick≤p.ahead
  omega
 ·show ((p.used.take _).length:Int)=w.tick - p.base.tick
  rw [List.length_take]
  omega
 ·show ((p.saves.take _).length:Int)=w.tick - p.base.tick
  rw [List.length_take]
  omega
 ·have hk':k < (p.used.take (t - p.base.tick).toNat).length:=hk
  rw [List.length_take] at hk'
  show ZbD ((p.used.take _).getD k default) p.tracks.length=true
  rw [getD_take (by omega)]
  exact hp.rows k (by omega)
 ·have hk':k < (p.saves.take (t - p.base.tick).toNat).length:=hk
  rw [List.length_take] at hk'
  show ((p.saves.take _).getD k default).1=p.base.tick + k
  rw [getD_take (by omega)]
  exact hp.ticks k (by omega)
 ·show w.tick≤_
  have hm:p.now.tick≤((p.tracks.getD p.me.toNat default).length:Int):=hm
  show w.tick≤((p.tracks.getD p.me.toNat default).length:Int)
  omega
noncomputable def Zpc (p:Pr):List Int:=(rowV p.tracks p.now.tick).1
noncomputable def Zqy (p:Pr):Wd:=ZbA (ZbY p.now (Zpc p)) p.now p.ft p.fp p.fa
noncomputable def Zr5 (p:Pr):Option Wd:=if p.saves.length=0 then some p.base else Zbn p (p.saves.getD (p.saves.length - 1) default).1
noncomputable def Zq1 (p:Pr) (b:Wd):Pr:={ p with now:=Zqy p,used:=p.used++[Zpc p],saves:=p.saves++[(p.now.tick,Zkl (Zbp b) (Zbp p.now))] }
noncomputable def ZpB (p:Pr):Option Pr:=if ZnB p=true then (Zr5 p).map (Zq1 p) else none
theorem ZnL {t:List Int} (h:ZaH t=true) {k:Int} (hk:0≤k):0≤ZaD t k∧ZaD t k≤15:=by
 unfold ZaD
 rw [if_neg (by rw [h];simp;omega)]
 split
 ·exact Zeh h (by omega)
 ·split
  ·omega
  ·have:=Zeh h (k:=t.length - 1) (by omega)
   omega
theorem Zr7 {ts:TS} (h:Zan ts=true) {k:Int} (hk:0≤k):ZbD (rowV ts k).1 ts.length=true:=by
 unfold rowV
 rw [if_neg (by rw [h];simp;omega)]
 unfold ZbD
 rw [Bool.and_eq_true,decide_eq_true_eq,List.all_eq_true]
 refine ⟨List.length_map _,fun x hx=>?_⟩
 obtain ⟨t,ht,rfl⟩:=List.mem_map.1 hx
 obtain ⟨i,hi,rfl⟩:=List.mem_iff_getElem.1 ht
 have:=ZfG h hi
 rw [Zb6 hi] at this
 exact Zae.2 (ZnL this hk)
theorem Zpd {w:Wd} {row:List Int} (h:ZaV w) (ht:w.tick ≠ 100000) (hr:ZbD row w.scores.length=true):(ZbY w row).tick=w.tick + 1∧(ZbY w row).level=w.level∧(ZbY w row).scores.length=w.scores.length∧ZaV (ZbY w row):=by
 refine ⟨?_,?_,Zmj,step_ok h⟩
 ·rw [ZdZ h ht hr]
  unfold goV Zdl
  split
  ·rfl
  ·split<;>rfl
 ·rw [ZdZ h ht hr]
  unfold goV Zdl
  split
  ·rfl
  ·split<;>rfl
theorem Zkp {v w:Wd} {t p a:Int} (h:ZaV v):(ZbA v w t p a).tick=v.tick∧(ZbA v w t p a).level=v.level∧(ZbA v w t p a).scores.length=v.scores.length∧ZaV (ZbA v w t p a):=by
 unfold ZbA
 split
 ·rename_i hc
  have hf:=hc.1
  unfold ZcX at hf
  have hf:=of_decide_eq_true hf
  refine ⟨rfl,rfl,List.length_set,?_⟩
  refine ⟨h.level,h.tick,h.seed,?_,fun k hk=>?_,?_,fun k hk=>?_,fun k hk=>?_,fun k hk=>?_⟩
  ·show 1≤(v.scores.set _ _).length∧(v.scores.set _ _).length≤4
   rw [List.length_set];exact h.n
  ·have hk':k < v.scores.length:=by
    have:(v.scores.set p.toNat (if 1000000 < v.scores.getD p.toNat default + a then 1000000 else v.scores.getD p.toNat default + a)).length=v.scores.length:=List.length_set
    exact this▸hk
   show 0≤(v.scores.set p.toNat _).getD k default∧(v.scores.set p.toNat _).getD k default≤1000000
   by_cases hpl:p.toNat < v.scores.length
   ·have h2:=h.scores p.toNat hpl
    rw [ZcG hpl]
    split
    ·split<;>omega
    ·exact h.scores k hk'
   ·rw [List.set_eq_of_length_le (by omega)]
    exact h.scores k hk'
  ·show (v.scores.set _ _).length≤v.bodies.length∧_
   rw [List.length_set];exact h.m
  ·show ZbF v.level ((v.scores.set _ _).length:Int) _
   rw [List.length_set];exact h.bodies k hk
  ·have hk':k < v.scores.length:=by
    have:(v.scores.set p.toNat (if 1000000 < v.scores.getD p.toNat default + a then 1000000 else v.scores.getD p.toNat default + a)).length=v.scores.length:=List.length_set
    exact this▸hk
   exact h.players k hk'
  ·refine h.others k ?_
   have:(v.scores.set p.toNat (if 1000000 < v.scores.getD p.toNat default + a then 1000000 else v.scores.getD p.toNat default + a)).length=v.scores.length:=List.length_set
   exact this▸hk
 ·exact ⟨rfl,rfl,rfl,h⟩
theorem Zqj {p:Pr} (h:ZnB p=true):Zic p∧(p.used.length:Int) < p.ahead∧p.now.tick < ((p.tracks.getD p.me.toNat default).length:Int):=by
 unfold ZnB at h
 simp only [Bool.and_eq_true,decide_eq_true_eq] at h
 exact ⟨Zbq.1 h.1.1,h.1.2,h.2⟩
theorem ZuM {p:Pr} (h:Zic p):(p.tracks.getD p.me.toNat default).length≤400:=by
 have:=h.me
 exact Zei (ZfG h.tracks (by omega))
theorem next_ok {p:Pr} (h:ZnB p=true):(Zqy p).tick=p.now.tick + 1∧(Zqy p).level=p.now.level∧(Zqy p).scores.length=p.tracks.length∧ZaV (Zqy p):=by
 obtain ⟨hp,h1,h2⟩:=Zqj h
 have h3:=ZuM hp
 have h4:=hp.now.tick
 obtain ⟨a1,a2,a3,a4⟩:=Zpd (row:=Zpc p) hp.now (by omega) (by rw [hp.nn];exact Zr7 hp.tracks h4.1)
 obtain ⟨b1,b2,b3,b4⟩:=Zkp (w:=p.now) (t:=p.ft) (p:=p.fp) (a:=p.fa) a4
 exact ⟨b1.trans a1,b2.trans a2,(b3.trans a3).trans hp.nn,b4⟩
theorem Zqr {p q:Pr} (h:ZpB p=some q):Zic q∧q.now.tick=p.now.tick + 1∧q.base=p.base∧q.tracks=p.tracks∧q.me=p.me∧q.ahead=p.ahead∧q.rolls=p.rolls∧q.again=p.again:=by
 unfold ZpB at h
 split at h
 ·rename_i hc
  cases hl:Zr5 p with
  | none=>rw [hl] at h;cases h
  | some b =>
   rw [hl] at h
   cases h
   obtain ⟨hp,h1,h2⟩:=Zqj hc
   obtain ⟨n1,n2,n3,n4⟩:=next_ok hc
   have hu:=hp.used
   have hs:=hp.saves
   have hld:=hp.lead
   refine ⟨⟨hp.tracks,hp.base,n4,hp.level.trans n2.symm,hp.nb,n3,hp.fault,hp.me,hp.delay,hp.ahead,hp.seed,hp.rolls,hp.again,?_,?_,?_,fun k hk=>?_,fun k hk=>?_,hp.known,?_,hp.sums⟩,n1,rfl,rfl,rfl,rfl,rfl,rfl⟩
   ·show 0≤(Zqy p).tick - p.base.tick∧(Zqy p).tick - p.base.tick≤p.ahead
    omega
   ·show ((p.used++[Zpc p]).length:Int)=(Zqy p).tick - p.base.tick
    rw [List.length_append];simp;omega
   ·show ((p.saves++[_]).length:Int)=(Zqy p).tick - p.base.tick
    rw [List.length_append];simp;omega
   ·have hk':k < (p.used++[Zpc p]).length:=hk
    rw [List.length_append] at hk'
    show ZbD ((p.used++[Zpc p]).getD k default) p.tracks.length=true
    rw [Zd5]
    split
    ·exact hp.rows k (by omega)
    ·have:k - p.used.length=0:=by simp at hk';omega
     rw [this]
     exact Zr7 hp.tracks hp.now.tick.1
   ·have hk':k < (p.saves++[(p.now.tick,Zkl (Zbp b) (Zbp p.now))]).length:=hk
    rw [List.length_append] at hk'
    show ((p.saves++[(p.now.tick,Zkl (Zbp b) (Zbp p.now))]).getD k default).1=p.base.tick + k
    rw [Zd5]
    split
    ·exact hp.ticks k (by omega)
    ·have:k - p.saves.length=0:=by simp at hk';omega
     rw [this]
     show p.now.tick=_
     simp at hk'
     omega
   ·show (Zqy p).tick≤((p.tracks.getD p.me.toNat default).length:Int)
    omega
 ·cases h
noncomputable def Zqm:Nat→Int→Pr→Option Pr
 | 0,_,p=>some p
 | f + 1,t,p=>if p.now.tick < t then (ZpB p).bind (Zqm f t) else some p
noncomputable def ZpG (p q:Pr):Pr:={ q with rolls:=if 1000000 < p.rolls + 1 then 1000000 else p.rolls + 1,again:=if 1000000 < p.again + (p.now.tick - ZdR p) then 1000000 else p.again + (p.now.tick - ZdR p) }
noncomputable def Zqk (p:Pr):Option Pr:=if Zb9 p=true then (if ZdR p < 0 then some p else (Zcv p (ZdR p)).bind fun q=>(Zqm (p.now.tick - q.now.tick).toNat p.now.tick q).map (ZpG p)) else none
theorem ZrK {t:Int}:∀ {f:Nat} {p q:Pr},Zic p→Zqm f t p=some q→Zic q∧q.base=p.base∧q.tracks=p.tracks∧q.rolls=p.rolls∧q.again=p.again
 | 0,p,q,hp,h=>by cases h;exact ⟨hp,rfl,rfl,rfl,rfl⟩
 | f + 1,p,q,hp,h=>by
  unfold Zqm at h
  split at h
  ·cases ha:ZpB p with
   | none=>rw [ha] at h;cases h
   | some r =>
    rw [ha] at h
    obtain ⟨a1,a2,a3,a4,a5,a6,a7,a8⟩:=Zqr ha
    obtain ⟨b1,b2,b3,b4,b5⟩:=ZrK a1 h
    exact ⟨b1,b2.trans a3,b3.trans a4,b4.trans a7,b5.trans a8⟩
  ·cases h;exact ⟨hp,rfl,rfl,rfl,rfl⟩
theorem Ztq {x:Int} (h:0≤x):0≤(if 1000000 < x then (1000000:Int) else x)∧(if 1000000 < x then (1000000:Int) else x)≤1000000:=by split<;>omega
theorem Zrt {ts:TS} {b:Int} {us:TS}:∀ (n k:Nat),Zpu ts b us n k=-1∨(b + k≤Zpu ts b us n k∧Zpu ts b us n k < b + k + n)
 | 0,_=>.inl rfl
 | n + 1,k=>by
  unfold Zpu
  split
  ·rcases Zrt (ts:=ts) (b:=b) (us:=us) n (k + 1) with h|h
   ·exact .inl h
   ·exact .inr (by omega)
  ·exact .inr (by omega)
theorem Zrv {p:Pr} (h:Zic p) (hw:0≤ZdR p):p.base.tick≤ZdR p∧ZdR p < p.now.tick:=by
 have hu:=h.used
 unfold ZdR at hw ⊢
 rw [if_pos (Zbq.2 h)] at hw ⊢
 rcases Zrt (ts:=p.tracks) (b:=p.base.tick) (us:=p.used) p.used.length 0 with h1|h1
 ·rw [h1] at hw;omega
 ·omega
theorem Zr6 {p q:Pr} (h:Zqk p=some q):Zic q∧q.base=p.base∧q.tracks=p.tracks:=by
 unfold Zqk at h
 split at h
 ·rename_i hp
  have hp:=Zbq.1 hp
  split at h
  ·cases h;exact ⟨hp,rfl,rfl⟩
  ·rename_i hw
   have hw:=Zrv hp (by omega)
   cases hr:Zcv p (ZdR p) with
   | none=>rw [hr] at h;cases h
   | some r =>
    rw [hr] at h
    replace h:(Zqm (p.now.tick - r.now.tick).toNat p.now.tick r).map (ZpG p)=some q:=h
    cases hg:Zqm (p.now.tick - r.now.tick).toNat p.now.tick r with
    | none=>rw [hg] at h;cases h
    | some s =>
     rw [hg] at h
     cases h
     unfold Zcv at hr
     cases hs:Zbn p (ZdR p) with
     | none=>rw [hs] at hr;cases hr
     | some w =>
      rw [hs] at hr
      cases hr
      obtain ⟨a1,a2,a3,a4,a5⟩:=ZrK (Zme hs) hg
      have r1:=hp.rolls
      have r2:=hp.again
      exact ⟨⟨a1.tracks,a1.base,a1.now,a1.level,a1.nb,a1.nn,a1.fault,a1.me,a1.delay,a1.ahead,a1.seed,Ztq (by omega),Ztq (by omega),a1.lead,a1.used,a1.saves,a1.rows,a1.ticks,a1.known,a1.mine,a1.sums⟩,a2,a3⟩
 ·cases h
noncomputable def ZqN (p:Pr):Option Wd:=if p.base.tick + 1=p.now.tick then some p.now else Zbn p (p.base.tick + 1)
noncomputable def ZpL (w:Wd):List Sv→List Sv
 | []=>[]
 | s :: r=>(s.1,Zkl (Zbp w) (Zbp w)) :: r
noncomputable def ZrB (p:Pr) (w:Wd):Pr:={ p with base:=w,sums:=p.sums++[Zgm w],used:=p.used.drop 1,saves:=ZpL w (p.saves.drop 1) }
noncomputable def ZqE (p:Pr):Prop:=p.base.tick < p.now.tick∧p.base.tick < Zbe p.tracks∧ZdR p ≠ p.base.tick
noncomputable instance (p:Pr):Decidable (ZqE p):=Classical.propDecidable _
noncomputable def ZpE (p:Pr):Option Pr:=if ZqE p then (ZqN p).map (ZrB p) else none
noncomputable def Zki:Nat→Pr→Pr
 | 0,p=>p
 | f + 1,p=>match ZpE p with
  | some q=>Zki f q
  | none=>p
noncomputable def confirmV (p:Pr):Pr:=if Zb9 p=true then Zki (p.now.tick - p.base.tick).toNat p else p
theorem Zq0 (w:Wd) (xs:List Sv):(ZpL w xs).length=xs.length:=by cases xs<;>rfl
theorem Zru (w:Wd) (xs:List Sv) (k:Nat):((ZpL w xs).getD k default).1=(xs.getD k default).1:=by
 match xs,k with
 | [],_=>rfl
 | _ :: _,0=>rfl
 | _ :: _,_ + 1=>rfl
theorem Zr9 {p:Pr} {w:Wd} (hp:Zic p) (h:ZqN p=some w):ZaV w∧w.level=p.base.level∧w.tick=p.base.tick + 1∧w.scores.length=p.tracks.length:=by
 unfold ZqN at h
 split at h
 ·rename_i he
  cases h
  exact ⟨hp.now,hp.level.symm,he.symm,hp.nn⟩
 ·obtain ⟨_,h2,h3,h4,h5⟩:=Zgc h
  exact ⟨h2,h3,h4,h5⟩
theorem Zqp {p q:Pr} (hp:Zic p) (h:ZpE p=some q):Zic q∧q.base.tick=p.base.tick + 1∧q.now=p.now∧q.tracks=p.tracks∧ZqE p:=by
 unfold ZpE at h
 split at h
 ·rename_i hg
  cases hn:ZqN p with
  | none=>rw [hn] at h;cases h
  | some w =>
   rw [hn] at h
   cases h
   obtain ⟨n1,n2,n3,n4⟩:=Zr9 hp hn
   obtain ⟨g1,g2,g3⟩:=hg
   have hu:=hp.used
   have hs:=hp.saves
   have hl:=hp.lead
   have hsu:=hp.sums
   refine ⟨⟨hp.tracks,n1,hp.now,n2.trans hp.level,n4,hp.nn,hp.fault,hp.me,hp.delay,hp.ahead,hp.seed,hp.rolls,hp.again,?_,?_,?_,fun k hk=>?_,fun k hk=>?_,?_,hp.mine,?_⟩,n3,rfl,rfl,⟨g1,g2,g3⟩⟩
   ·show 0≤p.now.tick - w.tick∧p.now.tick - w.tick≤p.ahead
    omega
   ·show ((p.used.drop 1).length:Int)=p.now.tick - w.tick
    rw [List.length_drop];omega
   ·show ((ZpL w (p.saves.drop 1)).length:Int)=p.now.tick - w.tick
    rw [Zq0,List.length_drop];omega
   ·have hk':k < (p.used.drop 1).length:=hk
    rw [List.length_drop] at hk'
    show ZbD ((p.used.drop 1).getD k default) p.tracks.length=true
    rw [Zrs]
    exact hp.rows (k + 1) (by omega)
   ·have hk':k < (ZpL w (p.saves.drop 1)).length:=hk
    rw [Zq0,List.length_drop] at hk'
    show ((ZpL w (p.saves.drop 1)).getD k default).1=w.tick + k
    rw [Zru,Zrs,hp.ticks (k + 1) (by omega)]
    omega
   ·show w.tick≤Zbe p.tracks
    omega
   ·show ((p.sums++[Zgm w]).length:Int)=w.tick + 1
    rw [List.length_append];simp;omega
 ·cases h
def Zg8 (p:Pr) (t:Int):Prop:=Zb9 p=true∧0≤t∧t≤Zbe p.tracks
noncomputable instance (p:Pr) (t:Int):Decidable (Zg8 p t):=Classical.propDecidable _
theorem ZgO {b:List UInt8} {xs:List Sv} {k:Nat} (hk:k < xs.length):Zba b (xs.take (k + 1))=(Zba b (xs.take k)).bind fun t=>Zar t (xs.getD k default).2:=by
 rw [List.take_succ_eq_append_getElem hk,Zhz]
 congr 1
 funext t
 show (Zar t xs[k].2).bind (fun t=>Zba t [])=_
 rw [List.getD_eq_getElem?_getD,List.getElem?_eq_getElem hk]
 show _=Zar t xs[k].2
 cases Zar t xs[k].2<;>rfl
theorem ZfU {b:List UInt8} {xs:List Sv} {k n:Nat} (h:Zba b (xs.take k)=none) (hn:k≤n):Zba b (xs.take n)=none:=by
 have e:xs.take n=xs.take k++(xs.take n).drop k:=by
  have:=(List.take_append_drop k (xs.take n)).symm
  rwa [List.take_take,Nat.min_eq_left hn] at this
 rw [e,Zhz,h]
 rfl
theorem ZhX {p:Pr} {t:Int} (h:¬ ZhY p t):Zbn p t=none:=if_neg h
theorem ZhT {p:Pr} {t:Int} {s:List UInt8} (h:Za2 p.base.level s=none):ZiT p t s=none:=by
 unfold ZiT;rw [h];rfl
theorem ZhU {p:Pr} {t:Int} {s:List UInt8} {w:Wd} (h:Za2 p.base.level s=some w):ZiT p t s=if w.tick=t∧w.scores.length=p.tracks.length then some w else none:=by
 unfold ZiT;rw [h];rfl
theorem Zmt {p:Pr} (h:Zc0 p) {k:Nat} (hk:k < p.saves.length):(p.saves.getD k default).2.length≤1048576:=by
 refine h _ ?_
 rw [List.getD_eq_getElem?_getD,List.getElem?_eq_getElem hk]
 exact List.getElem_mem _
theorem Zk4 {p:Pr} {t:Int} {n:Nat} {xs:List Sv} (hok:ZhY p t) (ht:t - p.base.tick=n) (hxs:xs=p.saves.take (n + 1)):Zbn p t=(Zba (Zbp p.base) xs).bind (ZiT p t):=by
 unfold Zbn
 rw [if_pos hok,ht,Int.toNat_natCast,hxs]
end Go.Proofs.YthfaongbpdnlnaaGreat
