/- What is proved: contracts on whom a body meets and on points, program and reference alike.
   Conditions: the bodies are valid. -/
import Derived.Test.YthfaongbpdnlnaaGreatT53
import Derived.Test.YthfaongbpdnlnaaGreatT52
import Derived.Test.YthfaongbpdnlnaaGreatT73
namespace Go.Proofs.YthfaongbpdnlnaaGreat
set_option maxHeartbeats 4000000
set_option maxRecDepth 20000
set_option linter.unusedSimpArgs false
set_option linter.unusedVariables false
open Go.RowKit Ab
def ZjQ (l:Lv) (n:Nat) (bs:List Bd) (m:Nat):Prop:=∀ k,k < m→ZbF l n (bs.getD k default)∧(k < n→(bs.getD k default).kind=0∧(bs.getD k default).owner=k)∧(n≤k→(bs.getD k default).kind ≠ 0)
theorem ZjQ.succ {l:Lv} {n m:Nat} {bs:List Bd} (h:ZjQ l n bs m) (h1:ZbF l n (bs.getD m default)) (h2:m < n→(bs.getD m default).kind=0∧(bs.getD m default).owner=m) (h3:n≤m→(bs.getD m default).kind ≠ 0):ZjQ l n bs (m + 1):=fun k hk=>by
 by_cases e:k=m
 ·subst e;exact ⟨h1,h2,h3⟩
 ·exact h k (by omega)
def ScP (sc:List Int) (m:Nat):Prop:=∀ k,k < m→0≤sc.getD k default∧sc.getD k default≤1000000
theorem ScP.succ {sc:List Int} {m:Nat} (h:ScP sc m) (h1:0≤sc.getD m default∧sc.getD m default≤1000000):ScP sc (m + 1):=fun k hk=>by
 by_cases e:k=m
 ·subst e;exact h1
 ·exact h k (by omega)
theorem Zlk {l:Lv} {tick seed:Int} {sc:List Int} {bs:List Bd} (hl:Zbc l=true) (ht:0≤tick∧tick≤100000) (hs:0≤seed∧seed≤65535) (hn:1≤sc.length∧sc.length≤4) (hsc:ScP sc sc.length) (hm:sc.length≤bs.length∧bs.length≤24) (hb:ZjQ l sc.length bs bs.length):ZaW ⟨l,tick,seed,sc,bs⟩=true :=
 Zax.2 ⟨ZaU.1 hl,ht,hs,hn,hsc,hm,fun k hk=>(hb k hk).1,fun k hk=>(hb k (by show k < bs.length;have:k < sc.length:=hk;omega)).2.1 hk,fun k h1 h2=>(hb k h2).2.2 h1⟩
theorem Zcg (l:Lv) (tick seed:Int) (sc:List Int) (bs:List Bd):AC Tryz.prog 85 [.agg [.t (.lst true 9 (Zai l)),.t (.int .i64 tick),.t (.int .i64 seed),.t (ints 3 sc),.t (.lst true 114 (bs.map bodyC))]] (.t (.bool (ZaW ⟨l,tick,seed,sc,bs⟩))):=by
 have hL:=Zbz l
 cases hl:Zbc l with
 | false =>
  rw [hl] at hL
  rw [ZaF fun h=>by have:=ZaU.2 h.level;rw [hl] at this;cases this]
  refine AC.go Tryz.func85 Tryz.ntmps85 fun B W hr=>?_
  repeat' (first|refine pa ?_|(refine pb ?_ ?_<;>intro hg)|(refine Zab (n:=20) ?_;(first|refine Zaa hL ?_))|refine po ?_|fail)
  exact pfr
 | true =>
  rw [hl] at hL
  by_cases ht:0≤tick∧tick≤100000
  ·have i1:=Zae.2 ht
   by_cases hs:0≤seed∧seed≤65535
   ·have i2:=Zae.2 hs
    by_cases hn:1≤sc.length∧sc.length≤4
    ·refine AC.go Tryz.func85 Tryz.ntmps85 fun B W hr=>?_
     repeat' (first|refine pa ?_|(refine pb ?_ ?_<;>intro hg)|(refine Zab (n:=20) ?_;(first|refine Zaa hL ?_|refine Zaa (Zaq _ _ _) ?_))|refine po ?_|fail)
     refine aW.loopF rfl (fun q:Nat=>[(36,.t (.int .i64 (q:Nat)))]) [(35,_),(34,_),(3,_),(1,_)] (fun q=>[]) [(1,_,_)] (fun q=>q≤sc.length∧ScP sc q) (fun q=>sc.length - q) 0 ⟨Nat.zero_le _,fun k hk=>absurd hk (Nat.not_lt_zero _)⟩ (by (exact plei)) ?_
     rintro q hI
     obtain ⟨hq,hsc⟩:q≤sc.length∧ScP sc q:=hI
     refine pln ?_
     by_cases hqn:q < sc.length
     ·by_cases hq1:0≤sc.getD q default∧sc.getD q default≤1000000
      ·have i3:=Zae.2 hq1
       repeat' (first|refine pa ?_|(refine pb ?_ ?_<;>intro hg)|(refine Zab (n:=20) ?_;(first|refine Zaa (Zaq _ _ _) ?_))|refine po ?_|fail)
       exact ⟨q + 1,⟨hqn,hsc.succ hq1⟩,by show sc.length - (q + 1) < sc.length - q;omega,by (exact ple)⟩
      ·have i3:=Zb3 hq1
       rw [ZaF fun h=>hq1 (h.scores q hqn)]
       repeat' (first|refine pa ?_|(refine pb ?_ ?_<;>intro hg)|(refine Zab (n:=20) ?_;(first|refine Zaa (Zaq _ _ _) ?_))|refine po ?_|fail)
       exact pfr
     ·obtain rfl:q=sc.length:=by omega
      by_cases hm:sc.length≤bs.length∧bs.length≤24
      ·repeat' (first|refine pa ?_|(refine pb ?_ ?_<;>intro hg)|refine po ?_|fail)
       refine aW.loopF rfl (fun q:Nat=>[(58,.t (.int .i64 (q:Nat)))]) [(57,_),(56,_),(3,_),(1,_)] (fun q=>[]) [(1,_,_)] (fun q=>q≤bs.length∧ZjQ l sc.length bs q) (fun q=>bs.length - q) 0 ⟨Nat.zero_le _,fun k hk=>absurd hk (Nat.not_lt_zero _)⟩ (by (exact plei)) ?_
       rintro q hI
       obtain ⟨hq,hbs⟩:q≤bs.length∧ZjQ l sc.length bs q:=hI
       refine pln ?_
       by_cases hqn:q < bs.length
       ·have hB:=Zix l sc.length (bs.getD q default)
        cases hv:Zhw l sc.length (bs.getD q default) with
        | false =>
         rw [show Zdf l sc.length (bs.getD q default)=false by unfold Zdf;rw [hv,Bool.and_false]] at hB
         rw [ZaF fun h=>by have:=ZbV.2 (h.bodies q hqn);rw [hv] at this;cases this]
         repeat' (first|refine pa ?_|(refine pb ?_ ?_<;>intro hg)|(refine Zab (n:=20) ?_;(first|refine Zaa hB ?_))|refine po ?_|fail)
         exact pfr
        | true =>
         rw [show Zdf l sc.length (bs.getD q default)=true by unfold Zdf;rw [hl,hv];rfl] at hB
         by_cases hp:q < sc.length
         ·by_cases hk0:(bs.getD q default).kind=0
          ·by_cases ho:(bs.getD q default).owner=q
           ·repeat' (first|refine pa ?_|(refine pb ?_ ?_<;>intro hg)|(refine Zab (n:=20) ?_;(first|refine Zaa hB ?_))|refine po ?_|fail)
            exact ⟨q + 1,⟨hqn,hbs.succ (ZbV.1 hv) (fun _=>⟨hk0,ho⟩) (fun h=>absurd hp (Nat.not_lt.2 h))⟩,by show bs.length - (q + 1) < bs.length - q;omega,by (exact ple)⟩
           ·rw [ZaF fun h=>ho (h.players q hp).2]
            repeat' (first|refine pa ?_|(refine pb ?_ ?_<;>intro hg)|(refine Zab (n:=20) ?_;(first|refine Zaa hB ?_))|refine po ?_|fail)
            exact pfr
          ·rw [ZaF fun h=>hk0 (h.players q hp).1]
           repeat' (first|refine pa ?_|(refine pb ?_ ?_<;>intro hg)|(refine Zab (n:=20) ?_;(first|refine Zaa hB ?_))|refine po ?_|fail)
           exact pfr
         ·by_cases hk0:(bs.getD q default).kind=0
          ·rw [ZaF fun h=>h.others q (Nat.not_lt.1 hp) hqn hk0]
           repeat' (first|refine pa ?_|(refine pb ?_ ?_<;>intro hg)|(refine Zab (n:=20) ?_;(first|refine Zaa hB ?_))|refine po ?_|fail)
           exact pfr
          ·repeat' (first|refine pa ?_|(refine pb ?_ ?_<;>intro hg)|(refine Zab (n:=20) ?_;(first|refine Zaa hB ?_))|refine po ?_|fail)
           exact ⟨q + 1,⟨hqn,hbs.succ (ZbV.1 hv) (fun h=>absurd h hp) (fun _=>hk0)⟩,by show bs.length - (q + 1) < bs.length - q;omega,by (exact ple)⟩
       ·obtain rfl:q=bs.length:=by omega
        rw [Zlk hl ht hs hn hsc hm hbs]
        repeat' (first|refine pa ?_|(refine pb ?_ ?_<;>intro hg)|refine po ?_|fail)
        exact pfr
      ·rw [ZaF fun h=>hm h.m]
       repeat' (first|refine pa ?_|(refine pb ?_ ?_<;>intro hg)|refine po ?_|fail)
       all_goals first|(exfalso;omega)|(refine pfin ?_;exact .inl rfl)
    ·rw [ZaF fun h=>hn h.n]
     refine AC.go Tryz.func85 Tryz.ntmps85 fun B W hr=>?_
     repeat' (first|refine pa ?_|(refine pb ?_ ?_<;>intro hg)|(refine Zab (n:=20) ?_;(first|refine Zaa hL ?_|refine Zaa (Zaq _ _ _) ?_))|refine po ?_|fail)
     all_goals first|(exfalso;omega)|(refine pfin ?_;exact .inl rfl)
   ·have i2:=Zb3 hs
    rw [ZaF fun h=>hs h.seed]
    refine AC.go Tryz.func85 Tryz.ntmps85 fun B W hr=>?_
    repeat' (first|refine pa ?_|(refine pb ?_ ?_<;>intro hg)|(refine Zab (n:=20) ?_;(first|refine Zaa hL ?_|refine Zaa (Zaq _ _ _) ?_))|refine po ?_|fail)
    exact pfr
  ·have i1:=Zb3 ht
   rw [ZaF fun h=>ht h.tick]
   refine AC.go Tryz.func85 Tryz.ntmps85 fun B W hr=>?_
   repeat' (first|refine pa ?_|(refine pb ?_ ?_<;>intro hg)|(refine Zab (n:=20) ?_;(first|refine Zaa hL ?_|refine Zaa (Zaq _ _ _) ?_))|refine po ?_|fail)
   exact pfr
theorem ZjR {X Y:Prop} (h:Y) (r:Hld Y→X:=by intro h;(apply pdq 25;(focus exact pdp);(focus (refine pt0_ 0 ?_<;>refine pt0_ 1 ?_<;>refine Zbh 2 ?_<;>refine pt0_ 3 ?_<;>(first|refine pg0_ 4 ?_|(refine pt2 4 ?_ ?_<;>intro hg<;>(refine pg0_ 4 ?_)))<;>(first|refine pg9_ 5 ?_|(refine pt2 5 ?_ ?_<;>intro hg<;>(refine pg9_ 5 ?_)))<;>(first|refine ZaK 6 ?_|(refine pt2 6 ?_ ?_<;>intro hg<;>(refine ZaK 6 ?_)))<;>(first|refine pg7_ 7 ?_|(refine pt2 7 ?_ ?_<;>intro hg<;>(refine pg7_ 7 ?_)))<;>(first|refine pg0_ 8 ?_|(refine pt2 8 ?_ ?_<;>intro hg<;>(refine pg0_ 8 ?_)))<;>(first|refine Zf8 9 ?_|(refine pt2 9 ?_ ?_<;>intro hg<;>(refine Zf8 9 ?_)))<;>(first|refine ZaK 10 ?_|(refine pt2 10 ?_ ?_<;>intro hg<;>(refine ZaK 10 ?_)))<;>(first|refine pg7_ 11 ?_|(refine pt2 11 ?_ ?_<;>intro hg<;>(refine pg7_ 11 ?_)))<;>(first|refine ZcA 12 ?_|(refine pt2 12 ?_ ?_<;>intro hg<;>(refine ZcA 12 ?_)))<;>refine pt2_ 13 ?_<;>refine pt0_ 14 ?_<;>(first|refine pg0_ 15 ?_|(refine pt2 15 ?_ ?_<;>intro hg<;>(refine pg0_ 15 ?_)))<;>(first|refine pg9_ 16 ?_|(refine pt2 16 ?_ ?_<;>intro hg<;>(refine pg9_ 16 ?_)))<;>(first|refine ZaK 17 ?_|(refine pt2 17 ?_ ?_<;>intro hg<;>(refine ZaK 17 ?_)))<;>(first|refine pg7_ 18 ?_|(refine pt2 18 ?_ ?_<;>intro hg<;>(refine pg7_ 18 ?_)))<;>(first|refine pg0_ 19 ?_|(refine pt2 19 ?_ ?_<;>intro hg<;>(refine pg0_ 19 ?_)))<;>(first|refine Zf8 20 ?_|(refine pt2 20 ?_ ?_<;>intro hg<;>(refine Zf8 20 ?_)))<;>(first|refine pg7_ 21 ?_|(refine pt2 21 ?_ ?_<;>intro hg<;>(refine pg7_ 21 ?_)))<;>(first|refine pg7_ 22 ?_|(refine pt2 22 ?_ ?_<;>intro hg<;>(refine pg7_ 22 ?_)))<;>(refine pq1 23 ?_)<;>(first|(refine pog ?_;(first|(refine Zab (n:=20) ?_;(first|refine Zaa hm ?_))|refine pk20 ?_))|refine pon ?_|(refine po2 ?_ ?_<;>intro hg<;>(first|(refine pog ?_;(first|(refine Zab (n:=20) ?_;(first|refine Zaa hm ?_))|refine pk20 ?_))|refine pon ?_)))<;>refine pt2_ 24 ?_<;>(refine ZaI ?_;exact ZaJ))));exact h.out):X:=r ⟨h⟩
theorem ints_set {sc:List Int} {k:Nat} {v:Int}:Zak (sc.set k v)=(Zak sc).set k [.int .i64 v]:=List.map_set
theorem Zjy {sc:List Int} {k:Nat} (hk:k < sc.length):sc.set k (sc.getD k default)=sc:=by
 rw [List.getD_eq_getElem?_getD,List.getElem?_eq_getElem hk]
 exact List.set_getElem_self hk
theorem ZfQ (l:Lv) (tick seed:Int) (sc:List Int) (bs ps:List Bd) (b:Bd) (o:Int) (hn:sc.length≤4) (hp:ps.length=sc.length) (hb1:sc.length≤bs.length) (hb2:bs.length≤24) (hps:∀ k,k < sc.length→ps.getD k default=bs.getD k default) (hpo:∀ k,k < sc.length→Zhd (ps.getD k default)) (hb:Zhd b):AM Tryz.prog 243 [(0,0,.box 30 [.hnd 1 0,.t (.int .i64 tick),.t (.int .i64 seed),.hnd 2 0,.hnd 3 0]),(1,0,.row true true 9 (Zai l)),(2,0,.row true true 3 (Zak sc)),(3,0,.row true true 114 (List.map bodyC bs))] [.ptr 0 0 0 0,.agg [.t (.int .i64 b.kind),.t (.int .i64 b.owner),.t (.int .i64 b.x),.t (.int .i64 b.y),.t (.int .i64 b.vx),.t (.int .i64 b.vy),.t (.int .i64 b.aim),.t (.int .i64 b.life),.t (.int .i64 b.timer)],.t (.int .i64 o)] [(0,0,.box 30 [.hnd 1 0,.t (.int .i64 tick),.t (.int .i64 seed),.hnd 2 0,.hnd 3 0]),(1,0,.row true true 9 (Zai l)),(2,0,.row true true 3 (Zak sc)),(3,0,.row true true 114 (List.map bodyC bs))] (.t (.int .i64 (metV ps b o))):=by
 have hsl:=Zal sc
 have hbl:(List.map bodyC bs).length=bs.length:=List.length_map _
 refine AM.go Tryz.func243 Tryz.ntmps243 fun B W hr=>?_
 repeat' (first|refine pa ?_|(refine pb ?_ ?_<;>intro hg)|refine po ?_|fail)
 refine aW.loopF rfl (fun q:Nat=>[(13,.t (.int .i64 (q:Nat)))]) [(12,_),(4,_),(2,_),(0,_)] (fun q=>[]) [(4,_,_),(0,_,_),(1,_,_),(2,_,_),(3,_,_)] (fun q=>q≤sc.length∧ZeG ps b o (ps.length - q) q=metV ps b o) (fun q=>sc.length - q) 0 ⟨Nat.zero_le _,rfl⟩ (by (exact plei)) ?_
 rintro q hI
 obtain ⟨hq,hg⟩:q≤sc.length∧ZeG ps b o (ps.length - q) q=metV ps b o:=hI
 refine pln ?_
 by_cases hqn:q < sc.length
 ·have hat:=hps q hqn
  have hm:=Zie (bs.getD q default) b (by rw [← hat];exact hpo q hqn) hb
  by_cases h1:(q:Int)=o
  ·repeat' (first|refine pa ?_|(refine pb ?_ ?_<;>intro hg)|(refine Zab (n:=20) ?_;(first|refine Zaa hm ?_))|refine po ?_|(refine ZjR ?_)|fail)
   exact ⟨q + 1,⟨hqn,by rw [← Zda (by omega) (fun e=>e.1 h1)];exact hg⟩,by show sc.length - (q + 1) < sc.length - q;omega,by (exact ple)⟩
  ·by_cases h2:0 < (bs.getD q default).life
   ·cases h3:Zl7 (bs.getD q default) b with
    | true =>
     rw [h3] at hm
     rw [← hg,ZiN (by omega) ⟨h1,by rw [hat];exact h2,by rw [hat];exact h3⟩]
     repeat' (first|refine pa ?_|(refine pb ?_ ?_<;>intro hg)|(refine Zab (n:=20) ?_;(first|refine Zaa hm ?_))|refine po ?_|(refine ZjR ?_)|fail)
     (show Zbu _ _ _ _ _ _ _;refine ZgD ?_;first|exact .inl ⟨rfl,rfl,rfl⟩|refine .inr ⟨rfl,?_,(by exact pU2),rfl⟩)
     exact .inl rfl
    | false =>
     rw [h3] at hm
     repeat' (first|refine pa ?_|(refine pb ?_ ?_<;>intro hg)|(refine Zab (n:=20) ?_;(first|refine Zaa hm ?_))|refine po ?_|(refine ZjR ?_)|fail)
     exact ⟨q + 1,⟨hqn,by rw [← Zda (by omega) (fun e=>by have:=e.2.2;rw [hat,h3] at this;cases this)];exact hg⟩,by show sc.length - (q + 1) < sc.length - q;omega,by (exact ple)⟩
   ·repeat' (first|refine pa ?_|(refine pb ?_ ?_<;>intro hg)|(refine Zab (n:=20) ?_;(first|refine Zaa hm ?_))|refine po ?_|(refine ZjR ?_)|fail)
    exact ⟨q + 1,⟨hqn,by rw [← Zda (by omega) (fun e=>h2 (by have:=e.2.1;rwa [hat] at this))];exact hg⟩,by show sc.length - (q + 1) < sc.length - q;omega,by (exact ple)⟩
 ·obtain rfl:q=sc.length:=by omega
  rw [← hg,← hp,ZkK]
  rw [hp]
  repeat' (first|refine pa ?_|(refine pb ?_ ?_<;>intro hg)|refine po ?_|fail)
  (show Zbu _ _ _ _ _ _ _;refine ZgD ?_;first|exact .inl ⟨rfl,rfl,rfl⟩|refine .inr ⟨rfl,?_,(by exact pU2),rfl⟩)
  exact .inl rfl
theorem ZgK (l:Lv) (tick seed:Int) (sc:List Int) (bs ps:List Bd) (b:Bd) (o:Int) (hn:sc.length≤4) (hp:ps.length=sc.length) (hb1:sc.length≤bs.length) (hb2:bs.length≤24) (hps:∀ k,k < sc.length→ps.getD k default=bs.getD k default) (hpo:∀ k,k < sc.length→Zhd (ps.getD k default)) (hb:Zhd b):AM Tryz.prog 220 [(0,0,.box 30 [.hnd 1 0,.t (.int .i64 tick),.t (.int .i64 seed),.hnd 2 0,.hnd 3 0]),(1,0,.row true true 9 (Zai l)),(2,0,.row true true 3 (Zak sc)),(3,0,.row true true 114 (List.map bodyC bs))] [.ptr 0 0 0 0,.agg [.t (.int .i64 b.kind),.t (.int .i64 b.owner),.t (.int .i64 b.x),.t (.int .i64 b.y),.t (.int .i64 b.vx),.t (.int .i64 b.vy),.t (.int .i64 b.aim),.t (.int .i64 b.life),.t (.int .i64 b.timer)],.t (.int .i64 o)] [(0,0,.box 30 [.hnd 1 0,.t (.int .i64 tick),.t (.int .i64 seed),.hnd 2 0,.hnd 3 0]),(1,0,.row true true 9 (Zai l)),(2,0,.row true true 3 (Zak sc)),(3,0,.row true true 114 (List.map bodyC bs))] (.t (.int .i64 (metV ps b o))):=by
 have hsl:=Zal sc
 have hbl:(List.map bodyC bs).length=bs.length:=List.length_map _
 refine AM.go Tryz.func220 Tryz.ntmps220 fun B W hr=>?_
 repeat' (first|refine pa ?_|(refine pb ?_ ?_<;>intro hg)|refine po ?_|fail)
 refine aW.loopF rfl (fun q:Nat=>[(7,.t (.int .i64 (q:Nat)))]) [(4,_),(2,_),(0,_)] (fun q=>[]) [(4,_,_),(0,_,_),(1,_,_),(2,_,_),(3,_,_)] (fun q=>q≤sc.length∧ZeG ps b o (ps.length - q) q=metV ps b o) (fun q=>sc.length - q) 0 ⟨Nat.zero_le _,rfl⟩ (by (exact plei)) ?_
 rintro q hI
 obtain ⟨hq,hg⟩:q≤sc.length∧ZeG ps b o (ps.length - q) q=metV ps b o:=hI
 refine pln ?_
 by_cases hqn:q < sc.length
 ·have hat:=hps q hqn
  have hm:=Zin (bs.getD q default) b (by rw [← hat];exact hpo q hqn) hb
  by_cases h1:(q:Int)=o
  ·repeat' (first|refine pa ?_|(refine pb ?_ ?_<;>intro hg)|(refine Zab (n:=20) ?_;(first|refine Zaa hm ?_))|refine po ?_|(refine ZjR ?_)|fail)
   exact ⟨q + 1,⟨hqn,by rw [← Zda (by omega) (fun e=>e.1 h1)];exact hg⟩,by show sc.length - (q + 1) < sc.length - q;omega,by (exact ple)⟩
  ·by_cases h2:0 < (bs.getD q default).life
   ·cases h3:Zl7 (bs.getD q default) b with
    | true =>
     rw [h3] at hm
     rw [← hg,ZiN (by omega) ⟨h1,by rw [hat];exact h2,by rw [hat];exact h3⟩]
     repeat' (first|refine pa ?_|(refine pb ?_ ?_<;>intro hg)|(refine Zab (n:=20) ?_;(first|refine Zaa hm ?_))|refine po ?_|(refine ZjR ?_)|fail)
     (show Zbu _ _ _ _ _ _ _;refine ZgD ?_;first|exact .inl ⟨rfl,rfl,rfl⟩|refine .inr ⟨rfl,?_,(by exact pU2),rfl⟩)
     exact .inl rfl
    | false =>
     rw [h3] at hm
     repeat' (first|refine pa ?_|(refine pb ?_ ?_<;>intro hg)|(refine Zab (n:=20) ?_;(first|refine Zaa hm ?_))|refine po ?_|(refine ZjR ?_)|fail)
     exact ⟨q + 1,⟨hqn,by rw [← Zda (by omega) (fun e=>by have:=e.2.2;rw [hat,h3] at this;cases this)];exact hg⟩,by show sc.length - (q + 1) < sc.length - q;omega,by (exact ple)⟩
   ·repeat' (first|refine pa ?_|(refine pb ?_ ?_<;>intro hg)|(refine Zab (n:=20) ?_;(first|refine Zaa hm ?_))|refine po ?_|(refine ZjR ?_)|fail)
    exact ⟨q + 1,⟨hqn,by rw [← Zda (by omega) (fun e=>h2 (by have:=e.2.1;rwa [hat] at this))];exact hg⟩,by show sc.length - (q + 1) < sc.length - q;omega,by (exact ple)⟩
 ·obtain rfl:q=sc.length:=by omega
  rw [← hg,← hp,ZkK]
  rw [hp]
  repeat' (first|refine pa ?_|(refine pb ?_ ?_<;>intro hg)|refine po ?_|fail)
  (show Zbu _ _ _ _ _ _ _;refine ZgD ?_;first|exact .inl ⟨rfl,rfl,rfl⟩|refine .inr ⟨rfl,?_,(by exact pU2),rfl⟩)
  exact .inl rfl
theorem ZgI (l:Lv) (tick seed:Int) (sc:List Int) (bs:List Bd) (k:Nat) (hk:k < sc.length) (hn:sc.length≤4) (hv:0≤sc.getD k default∧sc.getD k default≤1000000):AM Tryz.prog 244 [(0,0,.box 30 [.hnd 1 0,.t (.int .i64 tick),.t (.int .i64 seed),.hnd 2 0,.hnd 3 0]),(1,0,.row true true 9 (Zai l)),(2,0,.row true true 3 (Zak sc)),(3,0,.row true true 114 (List.map bodyC bs))] [.ptr 0 0 0 0,.t (.int .i64 (k:Nat))] [(0,0,.box 30 [.hnd 1 0,.t (.int .i64 tick),.t (.int .i64 seed),.hnd 2 0,.hnd 3 0]),(1,0,.row true true 9 (Zai l)),(2,0,.row true true 3 (Zak (Zdj sc k))),(3,0,.row true true 114 (List.map bodyC bs))] (.tup []):=by
 have hsl:=Zal sc
 unfold Zdj
 by_cases h:sc.getD k default < 1000000
 ·rw [if_pos h,ints_set]
  refine AM.go Tryz.func244 Tryz.ntmps244 fun B W hr=>?_
  repeat' (first|refine pa ?_|(refine pb ?_ ?_<;>intro hg)|refine po ?_|fail)
  (show Zbu _ _ _ _ _ _ _;refine Zbu.intro (by exact pU12) (vs:=[]) rfl rfl rfl (by exact pU3) rfl rfl (.inr ⟨rfl,True.intro,List.nodup_nil,rfl⟩))
 ·rw [if_neg h]
  refine AM.go Tryz.func244 Tryz.ntmps244 fun B W hr=>?_
  repeat' (first|refine pa ?_|(refine pb ?_ ?_<;>intro hg)|refine po ?_|fail)
  (show Zbu _ _ _ _ _ _ _;refine Zbu.intro (by exact pU12) (vs:=[]) rfl rfl rfl (by exact pU3) rfl rfl (.inr ⟨rfl,True.intro,List.nodup_nil,rfl⟩))
theorem ZgL (l:Lv) (tick seed:Int) (sc:List Int) (bs:List Bd) (k:Nat) (hk:k < sc.length) (hn:sc.length≤4) (hv:0≤sc.getD k default∧sc.getD k default≤1000000):AM Tryz.prog 221 [(0,0,.box 30 [.hnd 1 0,.t (.int .i64 tick),.t (.int .i64 seed),.hnd 2 0,.hnd 3 0]),(1,0,.row true true 9 (Zai l)),(2,0,.row true true 3 (Zak sc)),(3,0,.row true true 114 (List.map bodyC bs))] [.ptr 0 0 0 0,.t (.int .i64 (k:Nat))] [(0,0,.box 30 [.hnd 1 0,.t (.int .i64 tick),.t (.int .i64 seed),.hnd 2 0,.hnd 3 0]),(1,0,.row true true 9 (Zai l)),(2,0,.row true true 3 (Zak (Zdj sc k))),(3,0,.row true true 114 (List.map bodyC bs))] (.tup []):=by
 have hsl:=Zal sc
 have he:Zdj sc k=sc.set k (if 1000000 < sc.getD k default + 1 then 1000000 else sc.getD k default + 1):=by
  unfold Zdj
  split
  ·rw [if_neg (by omega)]
  ·rw [if_pos (by omega),show (1000000:Int)=sc.getD k default by omega,Zjy hk]
 rw [he,ints_set]
 refine AM.go Tryz.func221 Tryz.ntmps221 fun B W hr=>?_
 repeat' (first|refine pa ?_|(refine pb ?_ ?_<;>intro hg)|refine po ?_|(refine pdr [0] 16 (by (apply pct 16 65535 0;(focus (intro hd2;(apply pct 16 4095 4;(focus (intro hd1;(refine pt0_ 0 ?_<;>refine pt9_ 1 ?_<;>refine ZaC 2 ?_<;>refine pt7_ 3 ?_<;>refine pt0_ 4 ?_<;>refine pt0_ 5 ?_<;>refine pt9_ 6 ?_<;>refine ZaC 7 ?_<;>refine pt7_ 8 ?_<;>refine pt0_ 9 ?_<;>refine Za7 10 ?_<;>(refine pq1 11 ?_;(focus ((refine pop ?_;refine pk7 ?_)<;>(exact ptm hd1)))))));(case main=>(refine Zbh 12 ?_<;>refine Ziv 13 ?_<;>refine Za7 14 ?_<;>(refine pq1 15 ?_;(focus ((refine pop ?_;refine pk8 ?_)<;>(exact ptm hd2)))))))));(case main=>((refine ZaI ?_;exact ZaJ))))) ?_)|fail)
 (show Zbu _ _ _ _ _ _ _;refine Zbu.intro (by exact pU12) (vs:=[]) rfl rfl rfl (by exact pU3) rfl rfl (.inr ⟨rfl,True.intro,List.nodup_nil,rfl⟩))
end Go.Proofs.YthfaongbpdnlnaaGreat
