/- What is proved: the contract on valid peers, the program's.
   Conditions: none. -/
import Derived.Test.YthfaongbpdnlnaaGreatT90
import Derived.Test.YthfaongbpdnlnaaGreatT75
namespace Go.Proofs.YthfaongbpdnlnaaGreat
set_option maxHeartbeats 4000000
set_option maxRecDepth 20000
set_option linter.unusedSimpArgs false
set_option linter.unusedVariables false
open Go.RowKit Ab
theorem Zdd (l:Lv) (tick seed:Int) (sc:List Int) (bs:List Bd):AC Tryz.prog 79 [.agg [.t (.lst true 9 (Zai l)),.t (.int .i64 tick),.t (.int .i64 seed),.t (ints 3 sc),.t (.lst true 114 (bs.map bodyC))]] (.t (.bool (ZaW ⟨l,tick,seed,sc,bs⟩))):=by
 have hL:=Zfs l
 cases hl:Zbc l with
 | false =>
  rw [hl] at hL
  rw [ZaF fun h=>by have:=ZaU.2 h.level;rw [hl] at this;cases this]
  refine AC.go Tryz.func79 Tryz.ntmps79 fun B W hr=>?_
  repeat' (first|refine pa ?_|(refine pb ?_ ?_<;>intro hg)|(refine Zab (n:=20) ?_;(first|refine Zaa hL ?_|refine Zaa (Zah _ _ _) ?_))|refine po ?_|fail)
  exact pfr
 | true =>
  rw [hl] at hL
  have hl12:=(ZaU.1 hl).n12
  by_cases ht:0≤tick∧tick≤100000
  ·have i1:=Zae.2 ht
   by_cases hs:0≤seed∧seed≤65535
   ·have i2:=Zae.2 hs
    by_cases hn:1≤(sc.length:Int)∧(sc.length:Int)≤4
    ·have i3:=Zae.2 hn
     by_cases hm:(sc.length:Int)≤(bs.length:Int)∧(bs.length:Int)≤24
     ·have i4:=Zae.2 hm
      refine AC.go Tryz.func79 Tryz.ntmps79 fun B W hr=>?_
      repeat' (first|refine pa ?_|(refine pb ?_ ?_<;>intro hg)|(refine Zab (n:=20) ?_;(first|refine Zaa hL ?_|refine Zaa (Zah _ _ _) ?_))|refine po ?_|fail)
      refine aW.loopF rfl (fun q:Nat=>[(4,.t (.int .i64 (q:Nat)))]) [(3,_),(1,_)] (fun q=>[]) [(1,_,_)] (fun q=>q≤sc.length∧ScP sc q) (fun q=>sc.length - q) 0 ⟨Nat.zero_le _,fun k hk=>absurd hk (Nat.not_lt_zero _)⟩ (by (exact plei)) ?_
      rintro q hI
      obtain ⟨hq,hsc⟩:q≤sc.length∧ScP sc q:=hI
      refine pln ?_
      by_cases hqn:q < sc.length
      ·by_cases hq1:0≤sc.getD q default∧sc.getD q default≤1000000
       ·have i5:=Zae.2 hq1
        repeat' (first|refine pa ?_|(refine pb ?_ ?_<;>intro hg)|(refine Zab (n:=20) ?_;(first|refine Zaa (Zah _ _ _) ?_))|refine po ?_|fail)
        exact ⟨q + 1,⟨hqn,hsc.succ hq1⟩,by show sc.length - (q + 1) < sc.length - q;omega,by (exact ple)⟩
       ·have i5:=Zb3 hq1
        rw [ZaF fun h=>hq1 (h.scores q hqn)]
        repeat' (first|refine pa ?_|(refine pb ?_ ?_<;>intro hg)|(refine Zab (n:=20) ?_;(first|refine Zaa (Zah _ _ _) ?_))|refine po ?_|fail)
        exact pfr
      ·obtain rfl:q=sc.length:=by omega
       repeat' (first|refine pa ?_|(refine pb ?_ ?_<;>intro hg)|refine po ?_|fail)
       refine aW.loopF rfl (fun q:Nat=>[(5,.t (.int .i64 (q:Nat)))]) [(3,_),(1,_)] (fun q=>[]) [(1,_,_)] (fun q=>q≤bs.length∧ZjQ l sc.length bs q) (fun q=>bs.length - q) 0 ⟨Nat.zero_le _,fun k hk=>absurd hk (Nat.not_lt_zero _)⟩ (by (exact plei)) ?_
       rintro q hI
       obtain ⟨hq,hbs⟩:q≤bs.length∧ZjQ l sc.length bs q:=hI
       refine pln ?_
       by_cases hqn:q < bs.length
       ·have hB:=ZlM l sc.length (bs.getD q default) (by omega) (by omega)
        cases hv:Zhw l sc.length (bs.getD q default) with
        | false =>
         rw [hv] at hB
         rw [ZaF fun h=>by have:=ZbV.2 (h.bodies q hqn);rw [hv] at this;cases this]
         repeat' (first|refine pa ?_|(refine pb ?_ ?_<;>intro hg)|(refine Zab (n:=20) ?_;(first|refine Zaa hB ?_))|refine po ?_|fail)
         exact pfr
        | true =>
         rw [hv] at hB
         by_cases hp:q < sc.length
         ·by_cases hk0:(bs.getD q default).kind=0
          ·have hx:(!(decide ((bs.getD q default).kind=0) == decide ((q:Int) < (sc.length:Int))))=false:=by rw [decide_eq_true hk0,decide_eq_true (show (q:Int) < (sc.length:Int) by omega)];rfl
           by_cases ho:(bs.getD q default).owner=q
           ·repeat' (first|refine pa ?_|(refine pb ?_ ?_<;>intro hg)|(refine Zab (n:=20) ?_;(first|refine Zaa hB ?_))|refine po ?_|fail)
            exact ⟨q + 1,⟨hqn,hbs.succ (ZbV.1 hv) (fun _=>⟨hk0,ho⟩) (fun h=>absurd hp (Nat.not_lt.2 h))⟩,by show bs.length - (q + 1) < bs.length - q;omega,by (exact ple)⟩
           ·rw [ZaF fun h=>ho (h.players q hp).2]
            repeat' (first|refine pa ?_|(refine pb ?_ ?_<;>intro hg)|(refine Zab (n:=20) ?_;(first|refine Zaa hB ?_))|refine po ?_|fail)
            exact pfr
          ·have hx:(!(decide ((bs.getD q default).kind=0) == decide ((q:Int) < (sc.length:Int))))=true:=by rw [decide_eq_false hk0,decide_eq_true (show (q:Int) < (sc.length:Int) by omega)];rfl
           rw [ZaF fun h=>hk0 (h.players q hp).1]
           repeat' (first|refine pa ?_|(refine pb ?_ ?_<;>intro hg)|(refine Zab (n:=20) ?_;(first|refine Zaa hB ?_))|refine po ?_|fail)
           exact pfr
         ·by_cases hk0:(bs.getD q default).kind=0
          ·have hx:(!(decide ((bs.getD q default).kind=0) == decide ((q:Int) < (sc.length:Int))))=true:=by rw [decide_eq_true hk0,decide_eq_false (show ¬ (q:Int) < (sc.length:Int) by omega)];rfl
           rw [ZaF fun h=>h.others q (Nat.not_lt.1 hp) hqn hk0]
           repeat' (first|refine pa ?_|(refine pb ?_ ?_<;>intro hg)|(refine Zab (n:=20) ?_;(first|refine Zaa hB ?_))|refine po ?_|fail)
           exact pfr
          ·have hx:(!(decide ((bs.getD q default).kind=0) == decide ((q:Int) < (sc.length:Int))))=false:=by rw [decide_eq_false hk0,decide_eq_false (show ¬ (q:Int) < (sc.length:Int) by omega)];rfl
           repeat' (first|refine pa ?_|(refine pb ?_ ?_<;>intro hg)|(refine Zab (n:=20) ?_;(first|refine Zaa hB ?_))|refine po ?_|fail)
           exact ⟨q + 1,⟨hqn,hbs.succ (ZbV.1 hv) (fun h=>absurd h hp) (fun _=>hk0)⟩,by show bs.length - (q + 1) < bs.length - q;omega,by (exact ple)⟩
       ·obtain rfl:q=bs.length:=by omega
        rw [Zlk hl ht hs (by omega) hsc (by omega) hbs]
        repeat' (first|refine pa ?_|(refine pb ?_ ?_<;>intro hg)|refine po ?_|fail)
        exact pfr
     ·have i4:=Zb3 hm
      rw [ZaF fun h=>hm (by have:=h.m;show (sc.length:Int)≤bs.length∧(bs.length:Int)≤24;have h1:sc.length≤bs.length:=this.1;have h2:bs.length≤24:=this.2;omega)]
      refine AC.go Tryz.func79 Tryz.ntmps79 fun B W hr=>?_
      repeat' (first|refine pa ?_|(refine pb ?_ ?_<;>intro hg)|(refine Zab (n:=20) ?_;(first|refine Zaa hL ?_|refine Zaa (Zah _ _ _) ?_))|refine po ?_|fail)
      exact pfr
    ·have i3:=Zb3 hn
     rw [ZaF fun h=>hn (by have h1:1≤sc.length:=h.n.1;have h2:sc.length≤4:=h.n.2;omega)]
     refine AC.go Tryz.func79 Tryz.ntmps79 fun B W hr=>?_
     repeat' (first|refine pa ?_|(refine pb ?_ ?_<;>intro hg)|(refine Zab (n:=20) ?_;(first|refine Zaa hL ?_|refine Zaa (Zah _ _ _) ?_))|refine po ?_|fail)
     exact pfr
   ·have i2:=Zb3 hs
    rw [ZaF fun h=>hs h.seed]
    refine AC.go Tryz.func79 Tryz.ntmps79 fun B W hr=>?_
    repeat' (first|refine pa ?_|(refine pb ?_ ?_<;>intro hg)|(refine Zab (n:=20) ?_;(first|refine Zaa hL ?_|refine Zaa (Zah _ _ _) ?_))|refine po ?_|fail)
    exact pfr
  ·have i1:=Zb3 ht
   rw [ZaF fun h=>ht h.tick]
   refine AC.go Tryz.func79 Tryz.ntmps79 fun B W hr=>?_
   repeat' (first|refine pa ?_|(refine pb ?_ ?_<;>intro hg)|(refine Zab (n:=20) ?_;(first|refine Zaa hL ?_|refine Zaa (Zah _ _ _) ?_))|refine po ?_|fail)
   exact pfr
theorem T67d1 {X Y:Prop} (h:Y) (r:Hld Y→X:=by intro h;(apply pdq 32;(focus exact pdp);(focus ((apply pct 32 63 26;(focus (intro hd1;(refine ZaC 0 ?_<;>refine ZaC 1 ?_<;>refine pt7_ 2 ?_<;>refine ZaC 3 ?_<;>refine pt7_ 4 ?_<;>(refine pq1 5 ?_;(focus ((refine pop ?_;(refine Zab (n:=20) ?_;(first|refine Zaa hkt ?_)))<;>(exact ptm hd1)))))));(case main=>(refine Zbh 6 ?_<;>refine pt0_ 7 ?_<;>refine ZaK 8 ?_<;>refine pg7_ 9 ?_<;>refine ZaK 10 ?_<;>refine pg7_ 11 ?_<;>(first|(refine pty 12 ?_;(first|refine ZrQ ?_|refine pq17 ?_))|refine ptn 12 ?_)<;>refine ZaK 13 ?_<;>refine pg7_ 14 ?_<;>refine ZkT 15 ?_<;>refine ZaK 16 ?_<;>refine ZaK 17 ?_<;>refine pg7_ 18 ?_<;>refine ZcA 19 ?_<;>refine pt2_ 20 ?_<;>refine pt0_ 21 ?_<;>refine ZaK 22 ?_<;>refine pg7_ 23 ?_<;>refine ZkT 24 ?_<;>refine ZaK 25 ?_<;>refine ZaK 26 ?_<;>refine pg7_ 27 ?_<;>refine ZcA 28 ?_<;>refine ZcA 29 ?_<;>refine pt2_ 30 ?_<;>refine pt1_ 31 ?_<;>(refine ZaI ?_;exact ZaJ)))))));exact h.out):X:=r ⟨h⟩
theorem Zgp (p:Pr) (hn:p.tracks.length≤1048576):AC Tryz.prog 26 [.agg [.t (.int .i64 p.me),.t (.int .i64 p.delay),.t (.int .i64 p.ahead),.t (.int .i64 p.seed),.t (.lst false 46 (p.tracks.map trackC)),.t (.lst true 9 (Zai p.base.level)),.t (.int .i64 p.base.tick),.t (.int .i64 p.base.seed),.t (ints 3 p.base.scores),.t (.lst true 114 (p.base.bodies.map bodyC)),.t (.lst true 9 (Zai p.now.level)),.t (.int .i64 p.now.tick),.t (.int .i64 p.now.seed),.t (ints 3 p.now.scores),.t (.lst true 114 (p.now.bodies.map bodyC)),.t (.lst false 27 (p.used.map trackC)),.t (.lst true 100 (p.saves.map saveC)),.t (ints 3 p.sums),.t (.int .i64 p.ft),.t (.int .i64 p.fp),.t (.int .i64 p.fa),.t (.int .i64 p.rolls),.t (.int .i64 p.again)]] (.t (.bool (Zb9 p))):=by
 have hto:=Zds p.tracks
 have hwb:AC Tryz.prog 85 _ (.t (.bool (ZaW p.base))):=Zcg p.base.level p.base.tick p.base.seed p.base.scores p.base.bodies
 have hwn:AC Tryz.prog 85 _ (.t (.bool (ZaW p.now))):=Zcg p.now.level p.now.tick p.now.seed p.now.scores p.now.bodies
 have hsl:=Zi4 p.base.level p.now.level
 have hfo:=Zhg p.ft p.fp p.fa p.tracks.length (by omega)
 by_cases c0:Zan p.tracks=true
 case neg =>
  rw [Bool.not_eq_true] at c0
  rw [c0] at hto
  rw [Zbg fun h=>by have h2:Zan p.tracks=true:=h.tracks;rw [c0] at h2;cases h2]
  refine AC.go Tryz.func26 Tryz.ntmps26 fun B W hr=>?_
  repeat' (first|refine pa ?_|(refine pb ?_ ?_<;>intro hg)|(refine Zab (n:=20) ?_;(first|refine Zaa hto ?_|refine Zaa hwb ?_|refine Zaa hwn ?_|refine Zaa hsl ?_|refine Zaa hfo ?_|refine Zaa ((Zaq _ _ _)) ?_))|refine po ?_|fail)
  exact pfr
 rw [c0] at hto
 have hlen:=Zbi c0
 by_cases c1:ZaW p.base=true
 case neg =>
  rw [Bool.not_eq_true] at c1
  rw [c1] at hwb
  rw [Zbg fun h=>by have h2:ZaW p.base=true:=Zax.2 h.base;rw [c1] at h2;cases h2]
  refine AC.go Tryz.func26 Tryz.ntmps26 fun B W hr=>?_
  repeat' (first|refine pa ?_|(refine pb ?_ ?_<;>intro hg)|(refine Zab (n:=20) ?_;(first|refine Zaa hto ?_|refine Zaa hwb ?_|refine Zaa hwn ?_|refine Zaa hsl ?_|refine Zaa hfo ?_|refine Zaa ((Zaq _ _ _)) ?_))|refine po ?_|fail)
  exact pfr
 rw [c1] at hwb
 have tb:0≤p.base.tick∧p.base.tick≤100000:=(Zax.1 c1).tick
 by_cases c2:ZaW p.now=true
 case neg =>
  rw [Bool.not_eq_true] at c2
  rw [c2] at hwn
  rw [Zbg fun h=>by have h2:ZaW p.now=true:=Zax.2 h.now;rw [c2] at h2;cases h2]
  refine AC.go Tryz.func26 Tryz.ntmps26 fun B W hr=>?_
  repeat' (first|refine pa ?_|(refine pb ?_ ?_<;>intro hg)|(refine Zab (n:=20) ?_;(first|refine Zaa hto ?_|refine Zaa hwb ?_|refine Zaa hwn ?_|refine Zaa hsl ?_|refine Zaa hfo ?_|refine Zaa ((Zaq _ _ _)) ?_))|refine po ?_|fail)
  exact pfr
 rw [c2] at hwn
 have tn:0≤p.now.tick∧p.now.tick≤100000:=(Zax.1 c2).tick
 refine AC.go Tryz.func26 Tryz.ntmps26 fun B W hr=>?_
 repeat' (first|refine pa ?_|(refine pb ?_ ?_<;>intro hg)|(refine Zab (n:=20) ?_;(first|refine Zaa hto ?_|refine Zaa hwb ?_|refine Zaa hwn ?_|refine Zaa hsl ?_|refine Zaa hfo ?_|refine Zaa ((Zaq _ _ _)) ?_))|refine po ?_|fail)
 all_goals try (
  refine pfin ?_
  refine .inl (congrArg T.bool (Eq.symm (Zbg fun h=>?_)))
  first|exact hg h.level|exact hg (of_decide_eq_true h.fault)|(rw [Zae.2 h.me] at hg;cases hg)|(rw [Zae.2 h.delay] at hg;cases hg)|(rw [Zae.2 h.ahead] at hg;cases hg)|(rw [Zae.2 h.seed] at hg;cases hg)|(rw [Zae.2 h.rolls] at hg;cases hg)|(rw [Zae.2 h.again] at hg;cases hg)|(rw [Zae.2 h.lead] at hg;cases hg)|(have a1:=h.nb;have a2:=h.nn;have a3:=h.used;have a4:=h.saves;simp only [Bool.not_eq_true',decide_eq_false_iff_not] at hg;omega)|(have a1:=h.nb;have a2:=h.nn;have a3:=h.used;have a4:=h.saves;exact hg (by omega))
  done)
 rename_i g3 g4 g5 g6 g7 g8 g9 g10 g11 g12 g13 g14
 have c3:decide (p.base.level=p.now.level)=true:=decide_eq_true (by simpa using g3)
 have d4:p.base.scores.length=p.tracks.length:=by first|(have q_:=g4;simp only [Bool.not_eq_false',decide_eq_true_eq] at q_;omega)|omega
 have d5:p.now.scores.length=p.tracks.length:=by first|(have q_:=g5;simp only [Bool.not_eq_false',decide_eq_true_eq] at q_;omega)|omega
 have c6:ZcX p.ft p.fp p.fa p.tracks.length=true:=decide_eq_true (Classical.not_not.1 g6)
 have d7:0≤p.me∧p.me≤(p.tracks.length:Int) - 1:=Zae.1 (by simpa using g7)
 have d8:0≤p.delay∧p.delay≤5:=Zae.1 (by simpa using g8)
 have d9:1≤p.ahead∧p.ahead≤8:=Zae.1 (by simpa using g9)
 have d10:0≤p.seed∧p.seed≤65535:=Zae.1 (by simpa using g10)
 have d11:0≤p.rolls∧p.rolls≤1000000:=Zae.1 (by simpa using g11)
 have d12:0≤p.again∧p.again≤1000000:=Zae.1 (by simpa using g12)
 have d13:0≤p.now.tick - p.base.tick∧p.now.tick - p.base.tick≤p.ahead:=Zae.1 (by simpa using g13)
 have d14:(p.used.length:Int)=p.now.tick - p.base.tick:=by first|(have q_:=g14;simp only [Bool.not_eq_false',decide_eq_true_eq] at q_;omega)|omega
 have d15:(p.saves.length:Int)=p.now.tick - p.base.tick:=by first|(have q_:=hg;simp only [Bool.not_eq_false',decide_eq_true_eq] at q_;omega)|omega
 clear g3 g4 g5 g6 g7 g8 g9 g10 g11 g12 g13 g14 hg
 obtain ⟨m,hme⟩:=Int.eq_ofNat_of_zero_le d7.1
 have hm:m < p.tracks.length:=by omega
 have hmt:p.me.toNat=m:=by rw [hme];rfl
 refine aW.loopF rfl (fun q:Nat=>[(122,.t (.int .i64 (q:Nat)))]) [(121,_),(120,_),(3,_),(1,_)] (fun q=>[]) [(1,_,_)] (fun q=>q≤p.used.length∧∀ k,k < q→ZbD (p.used.getD k default) p.tracks.length=true) (fun q=>p.used.length - q) 0 ⟨Nat.zero_le _,fun k hk=>absurd hk (Nat.not_lt_zero _)⟩ (by (exact plei)) ?_
 rintro q hI
 obtain ⟨hq,hrw⟩:q≤p.used.length∧∀ k,k < q→ZbD (p.used.getD k default) p.tracks.length=true:=hI
 refine pln ?_
 by_cases hqn:q < p.used.length
 ·have hro:=Zhk (p.used.getD q default) p.tracks.length
  cases hv:ZbD (p.used.getD q default) p.tracks.length with
  | false =>
   rw [hv] at hro
   rw [Zbg fun h=>by have:=h.rows q hqn;rw [hv] at this;cases this]
   repeat' (first|refine pa ?_|(refine pb ?_ ?_<;>intro hg)|(refine Zab (n:=20) ?_;(first|refine Zaa hro ?_))|refine po ?_|fail)
   exact pfr
  | true =>
   rw [hv] at hro
   repeat' (first|refine pa ?_|(refine pb ?_ ?_<;>intro hg)|(refine Zab (n:=20) ?_;(first|refine Zaa hro ?_))|refine po ?_|fail)
   exact ⟨q + 1,⟨hqn,Zjn hrw hv⟩,by show p.used.length - (q + 1) < p.used.length - q;omega,by (exact ple)⟩
 obtain rfl:q=p.used.length:=by omega
 repeat' (first|refine pa ?_|(refine pb ?_ ?_<;>intro hg)|refine po ?_|fail)
 refine aW.loopF rfl (fun q:Nat=>[(134,.t (.int .i64 (q:Nat)))]) [(133,_),(132,_),(3,_),(1,_)] (fun q=>[]) [(1,_,_)] (fun q=>q≤p.saves.length∧∀ k,k < q→(p.saves.getD k default).1=p.base.tick + (k:Int)) (fun q=>p.saves.length - q) 0 ⟨Nat.zero_le _,fun k hk=>absurd hk (Nat.not_lt_zero _)⟩ (by (exact plei)) ?_
 rintro q hI
 obtain ⟨hq,hsv⟩:q≤p.saves.length∧∀ k,k < q→(p.saves.getD k default).1=p.base.tick + (k:Int):=hI
 refine pln ?_
 by_cases hqn:q < p.saves.length
 ·by_cases hv:(p.saves.getD q default).1=p.base.tick + (q:Int)
  ·repeat' (first|refine pa ?_|(refine pb ?_ ?_<;>intro hg)|refine po ?_|fail)
   exact ⟨q + 1,⟨hqn,Zjn hsv hv⟩,by show p.saves.length - (q + 1) < p.saves.length - q;omega,by (exact ple)⟩
  ·rw [Zbg fun h=>hv (h.ticks q hqn)]
   repeat' (first|refine pa ?_|(refine pb ?_ ?_<;>intro hg)|refine po ?_|fail)
   exact pfr
 obtain rfl:q=p.saves.length:=by omega
 have hkt:=ZdB p.tracks
 by_cases f1:p.base.tick≤Zbe p.tracks
 case neg =>
  rw [Zbg fun h=>f1 h.known]
  repeat' (first|refine pa ?_|(refine pb ?_ ?_<;>intro hg)|(refine Zab (n:=20) ?_;(first|refine Zaa hkt ?_))|refine po ?_|((apply pdq 32;(focus exact pdp);(focus ((apply pct 32 63 26;(focus (intro hd1;(refine ZaC 0 ?_<;>refine ZaC 1 ?_<;>refine pt7_ 2 ?_<;>refine ZaC 3 ?_<;>refine pt7_ 4 ?_<;>(refine pq1 5 ?_;(focus ((refine pop ?_;(refine Zab (n:=20) ?_;(first|refine Zaa hkt ?_)))<;>(exact ptm hd1)))))));(case main=>(refine Zbh 6 ?_<;>refine pt0_ 7 ?_<;>refine ZaK 8 ?_<;>refine pg7_ 9 ?_<;>refine ZaK 10 ?_<;>refine pg7_ 11 ?_<;>refine Zf8 12 ?_<;>refine ZaK 13 ?_<;>refine pg7_ 14 ?_<;>refine ZkT 15 ?_<;>refine ZaK 16 ?_<;>refine ZaK 17 ?_<;>refine pg7_ 18 ?_<;>refine ZcA 19 ?_<;>refine pt2_ 20 ?_<;>refine pt0_ 21 ?_<;>refine ZaK 22 ?_<;>refine pg7_ 23 ?_<;>refine ZkT 24 ?_<;>refine ZaK 25 ?_<;>refine ZaK 26 ?_<;>refine pg7_ 27 ?_<;>refine ZcA 28 ?_<;>refine ZcA 29 ?_<;>refine pt2_ 30 ?_<;>refine pt1_ 31 ?_<;>(refine ZaI ?_;exact ZaJ))))))))|fail)
  exact pfr
 by_cases f2:p.now.tick≤((p.tracks.getD m default).length:Int)
 case neg =>
  rw [Zbg fun h=>f2 (by have:=h.mine;rwa [hmt] at this)]
  repeat' (first|refine pa ?_|(refine pb ?_ ?_<;>intro hg)|refine ZnM ?_|(refine Zab (n:=20) ?_;(first|refine Zaa hkt ?_))|refine po ?_|(refine T67d1 ?_)|fail)
  exact pfr
 by_cases f3:(p.sums.length:Int)=p.base.tick + 1
 case neg =>
  rw [Zbg fun h=>f3 h.sums]
  repeat' (first|refine pa ?_|(refine pb ?_ ?_<;>intro hg)|refine ZnM ?_|(refine Zab (n:=20) ?_;(first|refine Zaa hkt ?_))|refine po ?_|(refine T67d1 ?_)|fail)
  refine pfin ?_
  exact .inl (congrArg T.bool (decide_eq_false f3))
 rw [Zbq.2 ⟨c0,Zax.1 c1,Zax.1 c2,of_decide_eq_true c3,d4,d5,c6,d7,d8,d9,d10,d11,d12,d13,d14,d15,hrw,hsv,f1,by rw [hmt];exact f2,f3⟩]
 repeat' (first|refine pa ?_|(refine pb ?_ ?_<;>intro hg)|refine ZnM ?_|(refine Zab (n:=20) ?_;(first|refine Zaa hkt ?_))|refine po ?_|(refine T67d1 ?_)|fail)
 refine pfin ?_
 exact .inl (congrArg T.bool (decide_eq_true f3))
end Go.Proofs.YthfaongbpdnlnaaGreat
