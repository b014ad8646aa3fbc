/- What is proved: contracts on the bytes of a world and their sum, program and reference alike.
   Conditions: none. -/
import Derived.Test.YthfaongbpdnlnaaGreatT90
import Derived.Test.YthfaongbpdnlnaaGreatT75
import Derived.Test.YthfaongbpdnlnaaGreatT71
namespace Go.Proofs.YthfaongbpdnlnaaGreat
set_option maxHeartbeats 4000000
set_option maxRecDepth 20000
set_option linter.unusedSimpArgs false
set_option linter.unusedVariables false
open Go.RowKit Ab
theorem Zd0 (l:Lv) (h:l.length≤1048576):AC Tryz.prog 146 [.agg [.t (.lst true 9 (Zai l))]] (.agg [.fr true 9 (Zai l)]):=by
 have hl:=Zbs l
 refine AC.go Tryz.func146 Tryz.ntmps146 fun B W hr=>?_
 repeat' (first|refine pa ?_|(refine pb ?_ ?_<;>intro hg)|refine po ?_|fail)
 all_goals refine pfin ?_
 (exact pgiv)
theorem ZcW (l:Lv) (h:l.length≤1048576):AC Tryz.prog 142 [.agg [.t (.lst true 9 (Zai l))]] (.agg [.fr true 9 (Zai l)]):=by
 have hl:=Zbs l
 refine AC.go Tryz.func142 Tryz.ntmps142 fun B W hr=>?_
 repeat' (first|refine pa ?_|(refine pb ?_ ?_<;>intro hg)|refine po ?_|fail)
 all_goals refine pfin ?_
 (exact pgiv)
theorem Zc1 (w:Wd) (h1:w.level.length≤1048576) (h2:w.scores.length≤1048576) (h3:w.bodies.length≤1048576):AC Tryz.prog 66 [.agg [.t (.lst true 9 (Zai w.level)),.t (.int .i64 w.tick),.t (.int .i64 w.seed),.t (ints 3 w.scores),.t (.lst true 114 (w.bodies.map bodyC))]] (.agg [.fr true 9 (Zai w.level),.t (.int .i64 w.tick),.t (.int .i64 w.seed),.fr true 3 (Zak w.scores),.fr true 114 (w.bodies.map bodyC)]):=by
 have hc:=Zd0 w.level h1
 have hl:=Zal w.scores
 have hb:(w.bodies.map bodyC).length=w.bodies.length:=List.length_map _
 refine AC.go Tryz.func66 Tryz.ntmps66 fun B W hr=>?_
 repeat' (first|refine pa ?_|(refine pb ?_ ?_<;>intro hg)|(refine Zab (n:=20) ?_;(first|refine pz3 hc ?_))|refine po ?_|fail)
 all_goals refine pfin ?_
 (exact pgiv)
theorem Zft (w:Wd) (h1:w.level.length≤1048576) (h2:w.scores.length≤1048576) (h3:w.bodies.length≤1048576):AC Tryz.prog 76 [.agg [.t (.lst true 9 (Zai w.level)),.t (.int .i64 w.tick),.t (.int .i64 w.seed),.t (ints 3 w.scores),.t (.lst true 114 (w.bodies.map bodyC))]] (.agg [.fr true 9 (Zai w.level),.t (.int .i64 w.tick),.t (.int .i64 w.seed),.fr true 3 (Zak w.scores),.fr true 114 (w.bodies.map bodyC)]):=by
 have hc:=ZcW w.level h1
 have hl:=Zal w.scores
 have hb:(w.bodies.map bodyC).length=w.bodies.length:=List.length_map _
 refine AC.go Tryz.func76 Tryz.ntmps76 fun B W hr=>?_
 repeat' (first|refine pa ?_|(refine pb ?_ ?_<;>intro hg)|(refine Zab (n:=20) ?_;(first|refine pz3 hc ?_))|refine po ?_|fail)
 all_goals refine pfin ?_
 (exact pgiv)
theorem ZrL {X Y:Prop} (h:Y) (r:Hld Y→X:=by intro h;(apply pdq 25;(focus exact pdp);(focus (refine pt7_ 0 ?_<;>(refine pq1 1 ?_)<;>(refine pop ?_;(first|(refine Zab (n:=20) ?_;(first|refine Zaa hpo ?_))|refine pk20 ?_))<;>refine pt0_ 2 ?_<;>(first|refine ZaK 3 ?_|(refine pt2 3 ?_ ?_<;>intro hg<;>(refine ZaK 3 ?_)))<;>(first|refine pg7_ 4 ?_|(refine pt2 4 ?_ ?_<;>intro hg<;>(refine pg7_ 4 ?_)))<;>(first|refine ZkT 5 ?_|(refine pt2 5 ?_ ?_<;>intro hg<;>(refine ZkT 5 ?_)))<;>(first|refine ZaK 6 ?_|(refine pt2 6 ?_ ?_<;>intro hg<;>(refine ZaK 6 ?_)))<;>(first|refine pg7_ 7 ?_|(refine pt2 7 ?_ ?_<;>intro hg<;>(refine pg7_ 7 ?_)))<;>(first|refine ZcA 8 ?_|(refine pt2 8 ?_ ?_<;>intro hg<;>(refine ZcA 8 ?_)))<;>refine pt2_ 9 ?_<;>refine pt0_ 10 ?_<;>(first|refine ZaK 11 ?_|(refine pt2 11 ?_ ?_<;>intro hg<;>(refine ZaK 11 ?_)))<;>(first|refine pg7_ 12 ?_|(refine pt2 12 ?_ ?_<;>intro hg<;>(refine pg7_ 12 ?_)))<;>(first|refine ZaK 13 ?_|(refine pt2 13 ?_ ?_<;>intro hg<;>(refine ZaK 13 ?_)))<;>(first|refine pg7_ 14 ?_|(refine pt2 14 ?_ ?_<;>intro hg<;>(refine pg7_ 14 ?_)))<;>(first|refine Zf8 15 ?_|(refine pt2 15 ?_ ?_<;>intro hg<;>(refine Zf8 15 ?_)))<;>(first|refine ZaK 16 ?_|(refine pt2 16 ?_ ?_<;>intro hg<;>(refine ZaK 16 ?_)))<;>(first|refine pg7_ 17 ?_|(refine pt2 17 ?_ ?_<;>intro hg<;>(refine pg7_ 17 ?_)))<;>(first|refine ZkT 18 ?_|(refine pt2 18 ?_ ?_<;>intro hg<;>(refine ZkT 18 ?_)))<;>(first|refine ZaK 19 ?_|(refine pt2 19 ?_ ?_<;>intro hg<;>(refine ZaK 19 ?_)))<;>(first|refine ZaK 20 ?_|(refine pt2 20 ?_ ?_<;>intro hg<;>(refine ZaK 20 ?_)))<;>(first|refine pg7_ 21 ?_|(refine pt2 21 ?_ ?_<;>intro hg<;>(refine pg7_ 21 ?_)))<;>(first|refine ZcA 22 ?_|(refine pt2 22 ?_ ?_<;>intro hg<;>(refine ZcA 22 ?_)))<;>refine pt2_ 23 ?_<;>refine pt1_ 24 ?_<;>(refine ZaI ?_;exact ZaJ))));exact h.out):X:=r ⟨h⟩
noncomputable def ZnB (p:Pr):Bool:=Zb9 p && decide ((p.used.length:Int) < p.ahead) && decide (p.now.tick < ((p.tracks.getD p.me.toNat default).length:Int))
def Zpu (ts:TS) (b:Int) (us:TS):Nat→Nat→Int
 | 0,_=>-1
 | n + 1,k=>if (rowV ts (b + k)).1=us.getD k default then Zpu ts b us n (k + 1) else b + k
noncomputable def ZdR (p:Pr):Int:=if Zb9 p=true then Zpu p.tracks p.base.tick p.used p.used.length 0 else -1
theorem Zq4 {ts:TS} {b:Int} {us:TS} {k:Nat} (hk:k < us.length) (h:(rowV ts (b + k)).1=us.getD k default):Zpu ts b us (us.length - k) k=Zpu ts b us (us.length - (k + 1)) (k + 1):=by
 obtain ⟨n,hn⟩:∃ n,us.length - k=n + 1:=⟨us.length - k - 1,by omega⟩
 rw [hn,show us.length - (k + 1)=n by omega,Zpu,if_pos h]
theorem Zq5 {ts:TS} {b:Int} {us:TS} {k:Nat} (hk:k < us.length) (h:(rowV ts (b + k)).1 ≠ us.getD k default):Zpu ts b us (us.length - k) k=b + k:=by
 obtain ⟨n,hn⟩:∃ n,us.length - k=n + 1:=⟨us.length - k - 1,by omega⟩
 rw [hn,Zpu,if_neg h]
theorem Zrl {ts:TS} {b:Int} {us:TS}:Zpu ts b us (us.length - us.length) us.length=-1:=by
 rw [Nat.sub_self];rfl
theorem ZqO {p:Pr} (h:Zic p):0≤p.base.tick∧p.base.tick≤100000∧0≤p.now.tick∧p.now.tick≤100000∧1≤p.tracks.length∧p.tracks.length≤4∧p.me=(p.me.toNat:Int)∧p.me.toNat < p.tracks.length∧p.used.length≤8∧p.saves.length≤8:=by
 have h1:=h.base.tick;have h2:=h.now.tick;have h3:=Zbi h.tracks;have h4:=h.me;have h5:=h.used;have h6:=h.saves;have h7:=h.lead;have h8:=h.ahead
 omega
theorem T77d1 {X Y:Prop} (h:Y) (r:Hld Y→X:=by intro h;exact pdr [0,1,4] 12 (by (apply pct 12 2047 1;(focus (intro hd5;(apply pct 12 575 5;(focus (intro hd4;(apply pct 12 1023 2;(focus (intro hd3;(apply pct 12 543 6;(focus (intro hd2;(apply pct 12 63 6;(focus (intro hd1;(refine pt0_ 0 ?_<;>refine pt9_ 1 ?_<;>refine ZaC 2 ?_<;>refine pt7_ 3 ?_<;>refine pt7_ 4 ?_<;>(refine pq2 5 9 ?_ ?_;(focus ((refine pop ?_;(refine Zab (n:=20) ?_;(first|refine Zaa hmv ?_)))<;>(exact ptm hd1)));(focus ((refine pop ?_;refine pk3 ?_)<;>(exact ptm hd2)))))));(case main=>(refine pt0_ 6 ?_<;>refine Zes 7 ?_<;>refine Zes 8 ?_<;>(refine pq1 9 ?_;(focus ((refine pop ?_;refine pk3 ?_)<;>(exact ptm hd3)))))))));(case main=>((refine pq1 5 ?_;(focus ((refine pop ?_;(refine Zab (n:=20) ?_;(first|refine Zaa hmv ?_)))<;>(exact ptm hd4)))))))));(case main=>((refine pq1 10 ?_;(focus ((refine pop ?_;refine pk8 ?_)<;>(exact ptm hd5)))))))));(case main=>(refine pt0_ 6 ?_<;>refine Zes 7 ?_<;>refine Zes 8 ?_<;>(refine pq1 10 ?_;(focus ((refine pop ?_;refine pk8 ?_)<;>(exact ptw hd5)))))))));(case main=>(refine pt1_ 11 ?_<;>(refine ZaI ?_;exact ZaJ))))) h.out):X:=r ⟨h⟩
theorem ZeF {l:Lv} {bs:List Bd} {q:Nat} {c:Bd} (hq:q < bs.length) (h:ZbS l (bs.getD q default)=some c):List.map bodyC ((bs.take (q + 1)).filterMap (ZbS l))=List.map bodyC ((bs.take q).filterMap (ZbS l))++[bodyC c]:=by
 rw [Ze9 hq,List.filterMap_append,List.map_append]
 congr 1
 rw [List.filterMap_cons,h]
 rfl
theorem Zjx {l:Lv} {bs:List Bd} {q:Nat} (hq:q < bs.length) (h:ZbS l (bs.getD q default)=none):List.map bodyC ((bs.take (q + 1)).filterMap (ZbS l))=List.map bodyC ((bs.take q).filterMap (ZbS l)):=by
 rw [Ze9 hq,List.filterMap_append,List.filterMap_cons,h,List.filterMap_nil,List.append_nil]
theorem fm_len (l:Lv) (bs:List Bd) (q:Nat):((bs.take q).filterMap (ZbS l)).length≤bs.length:=Nat.le_trans (List.length_filterMap_le _ _) (List.length_take_le' _ _)
theorem Zi6 (l:Lv) (tick seed:Int) (sc:List Int) (bs:List Bd) (n:Int) (hl:ZaZ l) (hm:bs.length≤24) (hb:∀ k,k < bs.length→ZbF l n (bs.getD k default)) :
  AMP Tryz.prog 211 [(0,0,.box 30 [.hnd 1 0,.t (.int .i64 tick),.t (.int .i64 seed),.hnd 2 0,.hnd 3 0]),(1,0,.row true true 9 (Zai l)),(2,0,.row true true 3 (Zak sc)),(3,0,.row true true 114 (List.map bodyC bs))] [.ptr 0 0 0 0] (fun x:Nat=>[(0,0,.box 30 [.hnd 1 0,.t (.int .i64 tick),.t (.int .i64 seed),.hnd 2 0,.hnd 500 (x + 1)]),(1,0,.row true true 9 (Zai l)),(2,0,.row true true 3 (Zak sc)),(3,0,.row true true 114 (List.map bodyC bs)),(500,x + 1,.row true true 114 (List.map bodyC (bs.filterMap (ZbS l))))]) (fun _=>.tup []) (fun _=>True):=by
 have hbl:(List.map bodyC bs).length=bs.length:=List.length_map _
 refine AMP.go Tryz.func211 Tryz.ntmps211 fun B W hr=>?_
 repeat' (first|refine pa ?_|(refine pb ?_ ?_<;>intro hg)|refine po ?_|fail)
 refine aW.nilrow (s:=2) (i:=500) true 114 rfl rfl ?_
 refine aW.loopF rfl (fun q:Nat×Nat×List (List T)=>[(12,.t (.int .i64 (q.1:Nat))),(2,.hnd 500 (q.2.1 + 1))]) [(11,_),(10,_),(0,_)] (fun q=>[(500,q.2.1 + 1,.row true true 114 q.2.2)]) [(0,_,_),(1,_,_),(2,_,_),(3,_,_)] (fun q=>q.1≤bs.length∧q.2.2=List.map bodyC ((bs.take q.1).filterMap (ZbS l))) (fun q=>bs.length - q.1) (0,0,[]) ⟨Nat.zero_le _,rfl⟩ (by (exact plei)) ?_
 rintro ⟨q,e,els⟩ hI
 obtain ⟨hq,he⟩:q≤bs.length∧els=List.map bodyC ((bs.take q).filterMap (ZbS l)):=hI
 have hel:els.length≤24:=by rw [he,List.length_map];exact Nat.le_trans (fm_len l bs q) hm
 refine pln ?_
 by_cases hqn:q < bs.length
 ·have hB:=hb q hqn
  have hmv:=ZjS l (bs.getD q default) hl hB.kind hB.free hB.vx hB.vy
  have htm:0≤(bs.getD q default).timer∧(bs.getD q default).timer≤25:=by rcases hB.timer with e|e|e|e<;>omega
  obtain ⟨r1,r2,r3,r4,r5,r6,r7⟩:=Zdb l (bs.getD q default)
  by_cases hA:(bs.getD q default).kind=0∧0 < (bs.getD q default).life
  ·obtain ⟨hA1,hA2⟩:=hA
   have ho:ZbS l (bs.getD q default)=some (Zbd l (bs.getD q default)).1:=if_pos ⟨hA1,hA2⟩
   generalize Zbd l (bs.getD q default)=mv at hmv ho
   repeat' (first|refine pa ?_|(refine pb ?_ ?_<;>intro hg)|refine ZaX ?_|(refine Zab (n:=20) ?_;(first|refine Zaa hmv ?_))|refine po ?_|(refine pdr [0,1] 10 (by (apply pct 10 1023 0;(focus (intro hd3;(apply pct 10 63 4;(focus (intro hd2;(apply pct 10 31 5;(focus (intro hd1;(refine pt0_ 0 ?_<;>refine pt9_ 1 ?_<;>refine ZaC 2 ?_<;>refine pt7_ 3 ?_<;>(refine pq1 4 ?_;(focus ((refine pop ?_;refine pk7 ?_)<;>(exact ptm hd1)))))));(case main=>((refine pq1 5 ?_;(focus ((refine pop ?_;(refine Zab (n:=20) ?_;(first|refine Zaa hmv ?_)))<;>(exact ptm hd2)))))))));(case main=>(refine pt0_ 6 ?_<;>refine Zes 7 ?_<;>refine Zes 8 ?_<;>(refine pq1 9 ?_;(focus ((refine pop ?_;refine pk8 ?_)<;>(exact ptm hd3)))))))));(case main=>((refine ZaI ?_;exact ZaJ))))) ?_)|fail)
   exact ⟨(q + 1,e + 1,_),⟨hqn,by rw [ZeF hqn ho,← he]⟩,by show bs.length - (q + 1) < bs.length - q;omega,by (exact ple)⟩
  ·by_cases h1:(bs.getD q default).kind=1
   ·have ho:ZbS l (bs.getD q default)=if (Zbd l (bs.getD q default)).2=true∨(bs.getD q default).timer - 1=0 then none else some { (Zbd l (bs.getD q default)).1 with timer:=(bs.getD q default).timer - 1 }:=by
     unfold ZbS
     rw [if_neg hA,if_pos h1]
    generalize Zbd l (bs.getD q default)=mv at hmv ho r5
    rw [← r5] at ho htm
    cases hs:mv.2 with
    | true =>
     rw [if_pos (.inl hs)] at ho
     repeat' (first|refine pa ?_|(refine pb ?_ ?_<;>intro hg)|refine ZaX ?_|(refine Zab (n:=20) ?_;(first|refine Zaa hmv ?_))|refine po ?_|(refine T77d1 ?_)|fail)
     exact ⟨(q + 1,e,els),⟨hqn,by rw [Zjx hqn ho];exact he⟩,by show bs.length - (q + 1) < bs.length - q;omega,by (exact ple)⟩
    | false =>
     by_cases h0:mv.1.timer - 1=0
     ·rw [if_pos (.inr h0)] at ho
      repeat' (first|refine pa ?_|(refine pb ?_ ?_<;>intro hg)|refine ZaX ?_|(refine Zab (n:=20) ?_;(first|refine Zaa hmv ?_))|refine po ?_|(refine T77d1 ?_)|fail)
      exact ⟨(q + 1,e,els),⟨hqn,by rw [Zjx hqn ho];exact he⟩,by show bs.length - (q + 1) < bs.length - q;omega,by (exact ple)⟩
     ·rw [if_neg (by rintro (h|h);rw [hs] at h;cases h;exact h0 h)] at ho
      repeat' (first|refine pa ?_|(refine pb ?_ ?_<;>intro hg)|refine ZaX ?_|(refine Zab (n:=20) ?_;(first|refine Zaa hmv ?_))|refine po ?_|(refine T77d1 ?_)|fail)
      exact ⟨(q + 1,e + 1,_),⟨hqn,by rw [ZeF hqn ho,← he]⟩,by show bs.length - (q + 1) < bs.length - q;omega,by (exact ple)⟩
   ·have ho:ZbS l (bs.getD q default)=some (bs.getD q default):=by
     unfold ZbS
     rw [if_neg hA,if_neg h1]
    by_cases hk:(bs.getD q default).kind=0
    ·have hlf:¬ 0 < (bs.getD q default).life:=fun h=>hA ⟨hk,h⟩
     repeat' (first|refine pa ?_|(refine pb ?_ ?_<;>intro hg)|refine ZaX ?_|refine po ?_|fail)
     exact ⟨(q + 1,e + 1,_),⟨hqn,by rw [ZeF hqn ho,← he]⟩,by show bs.length - (q + 1) < bs.length - q;omega,by (exact ple)⟩
    ·repeat' (first|refine pa ?_|(refine pb ?_ ?_<;>intro hg)|refine ZaX ?_|refine po ?_|fail)
     exact ⟨(q + 1,e + 1,_),⟨hqn,by rw [ZeF hqn ho,← he]⟩,by show bs.length - (q + 1) < bs.length - q;omega,by (exact ple)⟩
 ·obtain rfl:q=bs.length:=by omega
  rw [List.take_length] at he
  subst he
  repeat' (first|refine pa ?_|(refine pb ?_ ?_<;>intro hg)|refine po ?_|fail)
  refine ⟨e,trivial,?_⟩
  (show Zbu _ _ _ _ _ _ _;refine Zbu.intro (by exact pU12) (vs:=[]) rfl rfl rfl (by exact pU3) rfl rfl (.inr ⟨rfl,True.intro,List.nodup_nil,rfl⟩))
theorem Zky (xs ys:List Int):Zak (xs++ys)=Zak xs++Zak ys:=by simp [Zak]
theorem Zew (b:Bd):AC Tryz.prog 155 [.agg [.t (.int .i64 b.kind),.t (.int .i64 b.owner),.t (.int .i64 b.x),.t (.int .i64 b.y),.t (.int .i64 b.vx),.t (.int .i64 b.vy),.t (.int .i64 b.aim),.t (.int .i64 b.life),.t (.int .i64 b.timer)]] (.fr true 3 (Zak (bodyI b))):=by
 refine AC.go Tryz.func155 Tryz.ntmps155 fun B W hr=>?_
 repeat' (first|refine pa ?_|(refine pb ?_ ?_<;>intro hg)|refine po ?_|fail)
 exact pfg
theorem Zii (w:Wd):AC Tryz.prog 71 [.agg [.t (.lst true 9 (Zai w.level)),.t (.int .i64 w.tick),.t (.int .i64 w.seed),.t (ints 3 w.scores),.t (.lst true 114 (w.bodies.map bodyC))]] (.t (.str (Zbp w))):=by
 have hwo:AC Tryz.prog 85 [.agg [.t (.lst true 9 (Zai w.level)),.t (.int .i64 w.tick),.t (.int .i64 w.seed),.t (ints 3 w.scores),.t (.lst true 114 (w.bodies.map bodyC))]] (.t (.bool (ZaW w))):=Zcg w.level w.tick w.seed w.scores w.bodies
 by_cases h:ZaW w=true
 case neg =>
  rw [Zbp,if_neg h]
  rw [Bool.not_eq_true] at h
  rw [h] at hwo
  refine AC.go Tryz.func71 Tryz.ntmps71 fun B W hr=>?_
  repeat' (first|refine pa ?_|(refine pb ?_ ?_<;>intro hg)|(refine Zab (n:=20) ?_;(first|refine Zaa hwo ?_))|refine po ?_|fail)
  exact pfr
 rw [Zbp,if_pos h]
 rw [h] at hwo
 have hp:=Zax.1 h
 have hn:=hp.n
 have hm:=hp.m
 have hsl:=Zal w.scores
 have hbl:(w.bodies.map bodyC).length=w.bodies.length:=List.length_map _
 have hpk:=ZjU (Zen w) (by
  rw [Zen,List.length_append,ZfY]
  simp
  omega)
 refine AC.go Tryz.func71 Tryz.ntmps71 fun B W hr=>?_
 repeat' (first|refine pa ?_|(refine pb ?_ ?_<;>intro hg)|(refine Zab (n:=20) ?_;(first|refine Zaa hwo ?_))|refine po ?_|fail)
 refine aW.loopF rfl (fun q:Nat×Nat×List (List T)=>[(24,.t (.int .i64 q.1)),(3,.hnd 16 q.2.1)]) [(22,_),(23,_),(2,_),(1,_)] (fun q=>[(16,q.2.1,.row true true 3 q.2.2)]) [(1,_,_)] (fun q=>q.1≤w.bodies.length∧q.2.2=Zak ([w.tick,w.seed,(w.scores.length:Int)]++w.scores++(w.bodies.take q.1).flatMap bodyI)) (fun q=>w.bodies.length - q.1) (0,2,_) ⟨Nat.zero_le _,by show _=Zak ([w.tick,w.seed,(w.scores.length:Int)]++w.scores++[]);rw [List.append_nil]⟩ (by (exact plei)) ?_
 rintro ⟨k,ep,es⟩ hI
 obtain ⟨hI,he⟩:k≤w.bodies.length∧es=Zak ([w.tick,w.seed,(w.scores.length:Int)]++w.scores++(w.bodies.take k).flatMap bodyI):=hI
 obtain ⟨zs,hz⟩:∃ zs,zs=[w.tick,w.seed,(w.scores.length:Int)]++w.scores++(w.bodies.take k).flatMap bodyI:=⟨_,rfl⟩
 rw [← hz] at he
 subst he
 have hzk:zs.length=3 + w.scores.length + 9 * k:=by
  rw [hz,List.length_append,ZfY,List.length_append,List.length_take]
  simp
  omega
 have hzi:=Zal zs
 rw [hzk] at hzi
 refine pln ?_
 by_cases hk:k < w.bodies.length
 ·have hnx:[w.tick,w.seed,(w.scores.length:Int)]++w.scores++(w.bodies.take (k + 1)).flatMap bodyI=zs++bodyI (w.bodies.getD k default):=by rw [Zkq hk,hz];simp only [List.append_assoc]
  have hbn:(bodyI (w.bodies.getD k default)).length=9:=rfl
  repeat' (first|refine pa ?_|(refine pb ?_ ?_<;>intro hg)|(refine Zab (n:=20) ?_;(first|(first|refine q0cb1 ((Zew (w.bodies.getD k default))) ?_|refine qdd4a ((Zew (w.bodies.getD k default))) ?_|refine q3c89 ((Zew (w.bodies.getD k default))) ?_)))|refine po ?_|fail)
  exact ⟨(k + 1,ep + 1,_),⟨hk,by show _=Zak ([w.tick,w.seed,(w.scores.length:Int)]++w.scores++(w.bodies.take (k + 1)).flatMap bodyI);rw [hnx,Zky]⟩,by show w.bodies.length - (k + 1) < w.bodies.length - k;omega,by (exact ple)⟩
 ·obtain rfl:k=w.bodies.length:=by omega
  rw [List.take_length] at hz
  replace hz:zs=Zen w:=hz
  subst hz
  repeat' (first|refine pa ?_|(refine pb ?_ ?_<;>intro hg)|(refine Zab (n:=20) ?_;(first|refine Zaa hpk ?_))|refine po ?_|fail)
  exact pfr
end Go.Proofs.YthfaongbpdnlnaaGreat
