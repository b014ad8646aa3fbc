/- What is proved: the contract on a tick of a valid world, the reference's.
   Conditions: the world is valid. -/
import Derived.Test.YthfaongbpdnlnaaGreatT80
import Derived.Test.YthfaongbpdnlnaaGreatT81
namespace Go.Proofs.YthfaongbpdnlnaaGreat
set_option maxHeartbeats 4000000
set_option maxRecDepth 20000
set_option linter.unusedSimpArgs false
set_option linter.unusedVariables false
open Go.RowKit Ab
theorem ZpA {X Y:Prop} (h:Y) (r:Hld Y→X:=by intro h;exact pdr [0,1,10] 12 (by (apply pct 12 2047 1;(focus (intro hd5;(apply pct 12 575 5;(focus (intro hd4;(apply pct 12 1023 2;(focus (intro hd3;(apply pct 12 543 6;(focus (intro hd2;(apply pct 12 63 6;(focus (intro hd1;(refine pt0_ 0 ?_<;>refine pt9_ 1 ?_<;>refine ZaC 2 ?_<;>refine pt7_ 3 ?_<;>refine pt7_ 4 ?_<;>(refine pq2 5 9 ?_ ?_;(focus ((refine pop ?_;(refine Zab (n:=20) ?_;(first|refine Zaa hmo ?_)))<;>(exact ptm hd1)));(focus ((refine pop ?_;refine pk3 ?_)<;>(exact ptm hd2)))))));(case main=>(refine pt0_ 6 ?_<;>refine Zes 7 ?_<;>refine Zes 8 ?_<;>(refine pq1 9 ?_;(focus ((refine pop ?_;refine pk3 ?_)<;>(exact ptm hd3)))))))));(case main=>((refine pq1 5 ?_;(focus ((refine pop ?_;(refine Zab (n:=20) ?_;(first|refine Zaa hmo ?_)))<;>(exact ptm hd4)))))))));(case main=>((refine pq1 10 ?_;(focus ((refine pop ?_;refine pk8 ?_)<;>(exact ptm hd5)))))))));(case main=>(refine pt0_ 6 ?_<;>refine Zes 7 ?_<;>refine Zes 8 ?_<;>(refine pq1 10 ?_;(focus ((refine pop ?_;refine pk8 ?_)<;>(exact ptw hd5)))))))));(case main=>(refine pt1_ 11 ?_<;>(refine ZaI ?_;exact ZaJ))))) h.out):X:=r ⟨h⟩
theorem T82d2 {X Y:Prop} (h:Y) (r:Hld Y→X:=by intro h;(apply pdq 43;(focus exact pdp);(focus ((refine pt0_ 0 ?_<;>refine pt9_ 1 ?_<;>refine ZaC 2 ?_<;>refine pt7_ 3 ?_<;>refine pt0_ 4 ?_<;>(refine pti 5 ?_;(first|refine pzk1 ?_|refine pzk0 ?_|refine pq17 ?_))<;>refine ZaC 6 ?_<;>refine pt7_ 7 ?_<;>refine Zbh 8 ?_<;>refine pt0_ 9 ?_<;>refine pg0_ 10 ?_<;>refine pg9_ 11 ?_<;>refine ZaK 12 ?_<;>refine pg7_ 13 ?_<;>refine pg0_ 14 ?_<;>(first|(refine pty 15 ?_;(first|refine pzk1 ?_|refine pzk0 ?_|refine pq17 ?_))|refine ptn 15 ?_)<;>refine ZaK 16 ?_<;>refine pg7_ 17 ?_<;>refine pg0_ 18 ?_<;>refine pg0_ 19 ?_<;>(first|(refine pty 20 ?_;(first|refine pzk1 ?_|refine pzk0 ?_|refine pq17 ?_))|refine ptn 20 ?_)<;>refine pg7_ 21 ?_<;>(first|(refine pty 22 ?_;(first|refine pzk1 ?_|refine pzk0 ?_|refine pq17 ?_))|refine ptn 22 ?_)<;>refine pg7_ 23 ?_<;>refine ZcA 24 ?_<;>refine pt2_ 25 ?_<;>refine pt0_ 26 ?_<;>refine pg0_ 27 ?_<;>refine pg9_ 28 ?_<;>refine ZaK 29 ?_<;>refine pg7_ 30 ?_<;>refine pg0_ 31 ?_<;>(first|(refine pty 32 ?_;(first|refine pzk1 ?_|refine pzk0 ?_|refine pq17 ?_))|refine ptn 32 ?_)<;>refine ZaK 33 ?_<;>refine pg7_ 34 ?_<;>refine pg0_ 35 ?_<;>refine pg0_ 36 ?_<;>(first|(refine pty 37 ?_;(first|refine pzk1 ?_|refine pzk0 ?_|refine pq17 ?_))|refine ptn 37 ?_)<;>refine pg7_ 38 ?_<;>(first|(refine pty 39 ?_;(first|refine pzk1 ?_|refine pzk0 ?_|refine pq17 ?_))|refine ptn 39 ?_)<;>refine pg7_ 40 ?_<;>refine ZcA 41 ?_<;>refine pt2_ 42 ?_<;>(refine ZaI ?_;exact ZaJ)))));exact h.out):X:=r ⟨h⟩
theorem ZlP (w v:Wd) (row:List Int) (hv:v=ZbY w row) (h:ZaV w) (ht:w.tick ≠ 100000) (hr:ZbD row w.scores.length=true):AMP Tryz.prog 81 [(0,0,.box 30 [.hnd 1 0,.t (.int .i64 w.tick),.t (.int .i64 w.seed),.hnd 2 0,.hnd 3 0]),(1,0,.row true true 9 (Zai w.level)),(2,0,.row true true 3 (Zak w.scores)),(3,0,.row true true 114 (List.map bodyC w.bodies))] [.ptr 0 0 0 0,.t (ints 3 row)]
  (fun x:Nat×Nat=>[(0,0,.box 30 [.hnd 1 0,.t (.int .i64 v.tick),.t (.int .i64 v.seed),.hnd 2 0,.hnd 7016 (x.2 + 1)]),(1,0,.row true true 9 (Zai w.level)),(2,0,.row true true 3 (Zak v.scores)),(3,x.1,.row true true 114 (List.map bodyC ((st1 w row).1++(st1 w row).2))),(7016,x.2 + 1,.row true true 114 (List.map bodyC v.bodies))]) (fun _=>.tup []) (fun _=>True):=by
 obtain ⟨hrl,hri⟩:=Zk1 hr
 have hn:=h.n;have hm:=h.m;have htk:=h.tick;have hsd:=h.seed;have hl:=h.level;have hl12:=h.level.n12
 obtain ⟨hps,hrs⟩:=ZfK h
 have hbs:w.bodies=w.bodies.take w.scores.length++w.bodies.drop w.scores.length:=(List.take_append_drop _ _).symm
 have hlen0:(w.bodies.take w.scores.length).length + (w.bodies.drop w.scores.length).length≤24:=by rw [List.length_take,List.length_drop];omega
 obtain ⟨p1,p2,p3⟩:=Zo6 row h
 obtain ⟨q1,q2,q3⟩:=Zo7 row h
 obtain ⟨r1,r2⟩:=Zo8 row h
 obtain ⟨s1,s2⟩:=Zm8 row h
 have hmv:=(ZjE p1 p2).1
 have c3:=ZlN w.level w.tick w.seed w.scores (st2 w row).1 (st2 w row).2 hl hn ⟨q1,⟨rfl,h.scores⟩,RsOk.nil⟩ q2 q3
 have hgo:ZbY w row=Zdl w.level (w.tick + 1) (Zaz w.seed) (st4 w row).sc ((st4 w row).ps++(st4 w row).left):=ZdZ h ht hr
 have hst1:st1 w row=plTo w.level row (w.bodies.take w.scores.length,w.bodies.drop w.scores.length) w.scores.length:=rfl
 have hps4:(st4 w row).ps=(st3 w row).ps:=Zf1
 rw [hbs]
 generalize hs0:(w.bodies.take w.scores.length,w.bodies.drop w.scores.length)=s0 at hst1
 rw [show w.bodies.take w.scores.length=s0.1 by rw [← hs0],show w.bodies.drop w.scores.length=s0.2 by rw [← hs0]]
 rw [show w.bodies.take w.scores.length=s0.1 by rw [← hs0]] at hps hlen0
 rw [show w.bodies.drop w.scores.length=s0.2 by rw [← hs0]] at hrs hlen0
 clear hs0 hbs
 have hrl2:=Zal row
 have hscl:=Zal w.scores
 refine AMP.go Tryz.func81 Tryz.ntmps81 fun B W hr=>?_
 repeat' (first|refine pa ?_|(refine pb ?_ ?_<;>intro hg)|refine po ?_|fail)
 refine aW.joinF rfl (fun z:Nat×(List Bd×List Bd)=>[]) [(4,_),(0,_)] (fun z:Nat×(List Bd×List Bd)=>[(0,0,.box 30 [.hnd 1 0,.t (.int .i64 w.tick),.t (.int .i64 w.seed),.hnd 2 0,.hnd 3 z.1]),(3,z.1,.row true true 114 (List.map bodyC (z.2.1++z.2.2)))]) [(1,_,_),(2,_,_)] (fun z:Nat×(List Bd×List Bd)=>z.2=st1 w row) (0,s0) (by (exact plei)) ?_ ?_
 ·refine aW.loopF rfl (fun q:Nat×Nat×(List Bd×List Bd)=>[(5,.t (.int .i64 (q.1:Nat)))]) [(4,_),(1,_),(0,_)] (fun q=>[(0,0,.box 30 [.hnd 1 0,.t (.int .i64 w.tick),.t (.int .i64 w.seed),.hnd 2 0,.hnd 3 q.2.1]),(3,q.2.1,.row true true 114 (List.map bodyC (q.2.2.1++q.2.2.2)))]) [(1,_,_),(2,_,_)] (fun q=>PlI w.level row w.scores.length s0 q.1 q.2.2) (fun q=>w.scores.length - q.1) (0,0,s0) (PlI.start hps hrs hlen0) (by (exact plei)) ?_
  rintro ⟨k,ep,ps,rs⟩ hI
  have hI:PlI w.level row w.scores.length s0 k (ps,rs):=hI
  have hk:=hI.le
  have hm:ps.length + rs.length≤24:=hI.len
  have hpl:ps.length=w.scores.length:=hI.ps.len
  have hbl:(List.map bodyC (ps++rs)).length=ps.length + rs.length:=by rw [List.length_map,List.length_append]
  have hal:(ps++rs).length=ps.length + rs.length:=List.length_append
  refine pln ?_
  by_cases hkn:k < w.scores.length
  case neg =>
   obtain rfl:k=w.scores.length:=by omega
   repeat' (first|refine pa ?_|(refine pb ?_ ?_<;>intro hg)|refine po ?_|fail)
   exact .inl ⟨rfl,(ep,ps,rs),hI.eq.trans hst1.symm,by (exact ple)⟩
  have hb:ZbF w.level w.scores.length (ps.getD k default):=hI.ps.ok k hkn
  have hb0:(ps.getD k default).kind=0:=hI.ps.kind k hkn
  have hbo:(ps.getD k default).owner=k:=hI.ps.owner k hkn
  have hg:(ps++rs).getD k default=ps.getD k default:=Zbt (by omega)
  have hin1:=hri k hkn
  have hset:∀ b:Bd,(List.map bodyC (ps++rs)).set k (bodyC b)=List.map bodyC (ps.set k b++rs):=fun b=>by rw [← Zde (by omega),ZbC]
  have hone:∀ s',s'=Zdq w.level k (row.getD k default) (ps,rs)→PlI w.level row w.scores.length s0 (k + 1) s':=fun s' e=>hI.next hl hn.2 hkn e
  by_cases h0:(ps.getD k default).life=0
  ·have ht:1≤(ps.getD k default).timer∧(ps.getD k default).timer≤20:=by rcases hb.timer with e|e|e|e<;>omega
   have h0':((ps++rs).getD k default).life=0:=by rw [hg];exact h0
   have ht':1≤((ps++rs).getD k default).timer∧((ps++rs).getD k default).timer≤20:=by rw [hg];exact ht
   have hfr:=ZgJ w.level (k:Int)
   repeat' (first|(refine pth ?_)|((fail_if_success (with_reducible show aW _ _ _ (Code.seq (Code.seq (Code.region 6 _ _) _) _) _ _));(fail_if_success (with_reducible show aW _ _ _ (Code.seq (Code.region 6 _ _) _) _ _));(fail_if_success (with_reducible show aW _ _ _ (Code.region 6 _ _) _ _));(first|refine pc ?_|(refine pbc ?_ ?_<;>intro hg)))|(first|refine pl ?_|(refine pbl ?_ ?_<;>intro hg))|(first|refine po ?_)|fail)
   obtain ⟨ps1,hps1⟩:∃ x,x=ps.set k { (ps++rs).getD k default with timer:=((ps++rs).getD k default).timer - 1 }:=⟨_,rfl⟩
   have hpl1:ps1.length=ps.length:=by rw [hps1,List.length_set]
   have e1:(ps1++rs).getD k default={ (ps++rs).getD k default with timer:=((ps++rs).getD k default).timer - 1 }:=by rw [Zbt (by omega),hps1,ZcG (by omega),if_pos rfl]
   have hal1:(ps1++rs).length=ps.length + rs.length:=by rw [List.length_append,hpl1]
   have hbl1:(List.map bodyC (ps1++rs)).length=ps.length + rs.length:=by rw [List.length_map,List.length_append,hpl1]
   have hset1:∀ b:Bd,(List.map bodyC (ps1++rs)).set k (bodyC b)=List.map bodyC (ps1.set k b++rs):=fun b=>by rw [← Zde (by omega),ZbC]
   refine aW.reF rfl [] [(5,_),(4,_),(1,_),(0,_)] [(3,ep,.row true true 114 (List.map bodyC (ps1++rs)))] [(0,_,_),(1,_,_),(2,_,_)] (by rw [hps1,← hset];(exact plei)) ?_
   refine pln ?_
   by_cases h1:((ps1++rs).getD k default).timer=0
   ·have hs':Zdq w.level k (row.getD k default) (ps,rs)=(ps1.set k (Zfn w.level k),rs):=by
     unfold Zdq
     rw [if_pos h0,if_pos (by rw [e1,hg] at h1;exact h1),hps1,List.set_set]
    repeat' (first|refine pa ?_|(refine pb ?_ ?_<;>intro hg)|refine Ziw ?_|(refine Zab (n:=20) ?_;(first|refine Zaa hfr ?_))|refine po ?_|(refine pdr [0,1] 13 (by (apply pct 13 8191 0;(focus (intro hd2;(apply pct 13 2047 2;(focus (intro hd1;(refine pt0_ 0 ?_<;>refine pt9_ 1 ?_<;>refine ZaC 2 ?_<;>refine pt7_ 3 ?_<;>refine pt0_ 4 ?_<;>refine pt0_ 5 ?_<;>refine pt9_ 6 ?_<;>refine ZaC 7 ?_<;>refine pt7_ 8 ?_<;>refine pt0_ 9 ?_<;>(refine pq1 10 ?_;(focus ((refine pop ?_;(refine Zab (n:=20) ?_;(first|refine Zaa hfr ?_)))<;>(exact ptm hd1)))))));(case main=>(refine Za7 11 ?_<;>(refine pq1 12 ?_;(focus ((refine pop ?_;(first|refine Ziw ?_|refine pk8 ?_))<;>(exact ptm hd2)))))))));(case main=>((refine ZaI ?_;exact ZaJ))))) ?_)|fail)
    exact ⟨(k + 1,ep,(ps1.set k (Zfn w.level k),rs)),hone _ hs'.symm,by show w.scores.length - (k + 1) < w.scores.length - k;omega,by rw [← hset1];(exact ple)⟩
   ·have hs':Zdq w.level k (row.getD k default) (ps,rs)=(ps1,rs):=by
     unfold Zdq
     rw [if_pos h0,if_neg (by rw [e1,hg] at h1;exact h1),hps1,hg]
    repeat' (first|refine pa ?_|(refine pb ?_ ?_<;>intro hg)|refine po ?_|fail)
    exact ⟨(k + 1,ep,(ps1,rs)),hone _ hs'.symm,by show w.scores.length - (k + 1) < w.scores.length - k;omega,by (exact ple)⟩
  ·have hlife:1≤(ps.getD k default).life:=by rcases hb.life with e|e<;>omega
   rw [← hg] at hb hb0 hbo hlife h0
   have hst:=Zj8 w.level w.scores.length ((ps++rs).getD k default) (row.getD k default) hl hb hb0 hlife (by omega) hin1
   obtain ⟨q1,q2,q3,q4,q5,q6,q7⟩:=ZjM (i:=row.getD k default) hb hb0 hlife
   have hsh:=Znz (ZaQ w.level ((ps++rs).getD k default) (row.getD k default)).1 q1.pos q7
   have hpo:Zdq w.level k (row.getD k default) (ps,rs)=if (ZaQ w.level ((ps++rs).getD k default) (row.getD k default)).2=true∧ps.length + rs.length < 24 then (ps.set k (ZaQ w.level ((ps++rs).getD k default) (row.getD k default)).1,rs++[Zcn (ZaQ w.level ((ps++rs).getD k default) (row.getD k default)).1]) else (ps.set k (ZaQ w.level ((ps++rs).getD k default) (row.getD k default)).1,rs):=by
    unfold Zdq
    rw [if_neg (by rw [← hg];exact h0)]
    simp only [hg]
   generalize hsv:ZaQ w.level ((ps++rs).getD k default) (row.getD k default)=sv at hst hsh hpo
   repeat' (first|refine pa ?_|(refine pb ?_ ?_<;>intro hg)|(refine Zab (n:=20) ?_;(first|refine Zaa hst ?_))|refine po ?_|(refine pdr [0,1,3] 22 (by (apply pct 22 2097151 1;(focus (intro hd5;(apply pct 22 589823 5;(focus (intro hd4;(apply pct 22 1048575 2;(focus (intro hd3;(apply pct 22 557055 6;(focus (intro hd2;(apply pct 22 65535 6;(focus (intro hd1;(refine pt0_ 0 ?_<;>refine pt9_ 1 ?_<;>refine ZaC 2 ?_<;>refine pt7_ 3 ?_<;>refine pt0_ 4 ?_<;>refine pt9_ 5 ?_<;>refine ZaC 6 ?_<;>refine pt7_ 7 ?_<;>refine pt0_ 8 ?_<;>refine Za7 9 ?_<;>refine pt7_ 10 ?_<;>refine pt0_ 11 ?_<;>refine pt0_ 12 ?_<;>refine Za7 13 ?_<;>refine pt7_ 14 ?_<;>(refine pq2 15 19 ?_ ?_;(focus ((refine pop ?_;(refine Zab (n:=20) ?_;(first|refine Zaa hst ?_)))<;>(exact ptm hd1)));(focus ((refine pop ?_;refine pk3 ?_)<;>(exact ptm hd2)))))));(case main=>(refine pt0_ 16 ?_<;>refine Zes 17 ?_<;>refine Zes 18 ?_<;>(refine pq1 19 ?_;(focus ((refine pop ?_;refine pk3 ?_)<;>(exact ptm hd3)))))))));(case main=>((refine pq1 15 ?_;(focus ((refine pop ?_;(refine Zab (n:=20) ?_;(first|refine Zaa hst ?_)))<;>(exact ptm hd4)))))))));(case main=>((refine pq1 20 ?_;(focus ((refine pop ?_;refine pk8 ?_)<;>(exact ptm hd5)))))))));(case main=>(refine pt0_ 16 ?_<;>refine Zes 17 ?_<;>refine Zes 18 ?_<;>(refine pq1 20 ?_;(focus ((refine pop ?_;refine pk8 ?_)<;>(exact ptw hd5)))))))));(case main=>(refine pt1_ 21 ?_<;>(refine ZaI ?_;exact ZaJ))))) ?_)|fail)
   repeat' (first|(refine pth ?_)|((fail_if_success (with_reducible show aW _ _ _ (Code.seq (Code.seq (Code.region 10 _ _) _) _) _ _));(fail_if_success (with_reducible show aW _ _ _ (Code.seq (Code.region 10 _ _) _) _ _));(fail_if_success (with_reducible show aW _ _ _ (Code.region 10 _ _) _ _));(first|refine pc ?_|(refine pbc ?_ ?_<;>intro hg)))|(first|refine pl ?_|(refine pbl ?_ ?_<;>intro hg))|(first|refine Ziw ?_|refine po ?_)|(refine pdr [0,1,6] 8 (by (apply pct 8 255 0;(focus (intro hd1;(refine pt0_ 0 ?_<;>refine pt9_ 1 ?_<;>refine ZaC 2 ?_<;>refine pt7_ 3 ?_<;>refine pt0_ 4 ?_<;>refine pt7_ 5 ?_<;>refine Za7 6 ?_<;>(refine pq1 7 ?_;(focus ((refine pop ?_;(first|refine Ziw ?_|refine pk8 ?_))<;>(exact ptm hd1)))))));(case main=>((refine ZaI ?_;exact ZaJ))))) ?_)|fail)
   refine aW.reF rfl [] [(7,_),(6,_),(5,_),(4,_),(1,_),(0,_)] [(3,ep,.row true true 114 (List.map bodyC (ps.set k sv.1++rs)))] [(0,_,_),(1,_,_),(2,_,_),(6,_,_)] (by rw [← hset];(exact plei)) ?_
   have hal2:(ps.set k sv.1++rs).length=ps.length + rs.length:=by rw [List.length_append,List.length_set]
   have hbl2:(List.map bodyC (ps.set k sv.1++rs)).length=ps.length + rs.length:=by rw [List.length_map,List.length_append,List.length_set]
   refine pln ?_
   cases hf:sv.2 with
   | false =>
    repeat' (first|refine pa ?_|(refine pb ?_ ?_<;>intro hg)|refine po ?_|fail)
    exact ⟨(k + 1,ep,(ps.set k sv.1,rs)),hone _ (by rw [hpo,if_neg (by rw [hf];simp)]),by show w.scores.length - (k + 1) < w.scores.length - k;omega,by (exact ple)⟩
   | true =>
    by_cases hlt:ps.length + rs.length < 24
    ·repeat' (first|refine pa ?_|(refine pb ?_ ?_<;>intro hg)|refine ZaX ?_|(refine Zab (n:=20) ?_;(first|refine Zaa hsh ?_))|refine po ?_|(refine pdr [6] 12 (by (apply pct 12 4095 0;(focus (intro hd7;(apply pct 12 511 3;(focus (intro hd6;(apply pct 12 255 4;(focus (intro hd5;(apply pct 12 239 5;(focus (intro hd4;(apply pct 12 127 5;(focus (intro hd3;(apply pct 12 111 6;(focus (intro hd2;(apply pct 12 63 6;(focus (intro hd1;(refine pt0_ 0 ?_<;>refine pt0_ 1 ?_<;>refine pt9_ 2 ?_<;>refine ZaC 3 ?_<;>refine pt7_ 5 ?_<;>(refine pq2 4 6 ?_ ?_;(focus ((refine pop ?_;refine pk7 ?_)<;>(exact ptm hd1)));(focus ((refine pop ?_;(refine Zab (n:=20) ?_;(first|refine Zaa hsh ?_)))<;>(exact ptm hd2)))))));(case main=>((refine pq1 6 ?_;(focus ((refine pop ?_;(refine Zab (n:=20) ?_;(first|refine Zaa hsh ?_)))<;>(exact ptm hd3)))))))));(case main=>((refine pq2 4 7 ?_ ?_;(focus ((refine pop ?_;refine pk7 ?_)<;>(exact ptw hd3)));(focus ((refine pop ?_;(first|refine ZaX ?_|refine pk6 ?_))<;>(exact ptm hd4)))))))));(case main=>((refine pq1 7 ?_;(focus ((refine pop ?_;(first|refine ZaX ?_|refine pk6 ?_))<;>(exact ptm hd5)))))))));(case main=>((refine pq1 4 ?_;(focus ((refine pop ?_;refine pk7 ?_)<;>(exact ptw hd5)))))))));(case main=>((refine pq1 8 ?_;(focus ((refine pop ?_;refine pk20 ?_)<;>(exact ptm hd6)))))))));(case main=>(refine pt9_ 9 ?_<;>refine ZaC 10 ?_<;>(refine pq1 11 ?_;(focus ((refine pop ?_;refine pk8 ?_)<;>(exact ptm hd7)))))))));(case main=>((refine ZaI ?_;exact ZaJ))))) ?_)|fail)
     exact ⟨(k + 1,ep + 1,(ps.set k sv.1,rs++[Zcn sv.1])),hone _ (by rw [hpo,if_pos ⟨hf,hlt⟩]),by show w.scores.length - (k + 1) < w.scores.length - k;omega,by rw [← List.append_assoc,ZbK];(exact ple)⟩
    ·repeat' (first|refine pa ?_|(refine pb ?_ ?_<;>intro hg)|refine po ?_|fail)
     exact ⟨(k + 1,ep,(ps.set k sv.1,rs)),hone _ (by rw [hpo,if_neg fun e=>hlt e.2]),by show w.scores.length - (k + 1) < w.scores.length - k;omega,by (exact ple)⟩
 rintro ⟨ep,bb⟩ hz
 have hz:bb=st1 w row:=hz
 subst hz
 have hal:((st1 w row).1++(st1 w row).2).length=(st1 w row).1.length + (st1 w row).2.length:=List.length_append
 have hplen:=p1.len
 have hB:∀ k,k < ((st1 w row).1++(st1 w row).2).length→ZbF w.level w.scores.length (((st1 w row).1++(st1 w row).2).getD k default)∧(((((st1 w row).1++(st1 w row).2).getD k default).kind=0)↔k < w.scores.length):=fun k hk=>by
  by_cases hk2:k < (st1 w row).1.length
  ·rw [Zbt hk2];exact ⟨p1.ok k (by omega),fun _=>by omega,fun _=>p1.kind k (by omega)⟩
  ·rw [Zd5,if_neg hk2];exact ⟨(p2.at (by omega)).1,fun h=>absurd h (p2.at (by omega)).2,fun h=>by omega⟩
 rw [← hmv] at *
 generalize hbb:(st1 w row).1++(st1 w row).2=bs at *
 have hbl:(List.map bodyC bs).length=bs.length:=List.length_map _
 refine pln ?_
 repeat' (first|refine pa ?_|(refine pb ?_ ?_<;>intro hg)|refine po ?_|fail)
 refine aW.joinF rfl (fun z:Nat×List (List T)=>[(8,.hnd 114 (z.1 + 1))]) [(4,_),(0,_)] (fun z:Nat×List (List T)=>[(114,z.1 + 1,.row true true 114 z.2)]) [(0,_,_),(1,_,_),(2,_,_),(3,_,_)] (fun z:Nat×List (List T)=>z.2=List.map bodyC (bs.filterMap (ZbS w.level))) (0,[]) (by (exact plei)) ?_ ?_
 ·refine aW.loopF rfl (fun q:Nat×Nat×List (List T)=>[(9,.t (.int .i64 (q.1:Nat))),(8,.hnd 114 (q.2.1 + 1))]) [(4,_),(0,_)] (fun q=>[(114,q.2.1 + 1,.row true true 114 q.2.2)]) [(0,_,_),(1,_,_),(2,_,_),(3,_,_)] (fun q=>q.1≤bs.length∧q.2.2=List.map bodyC ((bs.take q.1).filterMap (ZbS w.level))) (fun q=>bs.length - q.1) (0,0,[]) ⟨Nat.zero_le _,rfl⟩ (by (exact plei)) ?_
  rintro ⟨q,e,els⟩ hI
  obtain ⟨hq,he⟩:q≤bs.length∧els=List.map bodyC ((bs.take q).filterMap (ZbS w.level)):=hI
  have hel:els.length≤24:=by rw [he,List.length_map];exact Nat.le_trans (fm_len w.level bs q) (by omega)
  refine pln ?_
  by_cases hqn:q < bs.length
  case neg =>
   obtain rfl:q=bs.length:=by omega
   rw [List.take_length] at he
   repeat' (first|refine pa ?_|(refine pb ?_ ?_<;>intro hg)|refine po ?_|fail)
   exact .inl ⟨rfl,(e,els),he,by (exact ple)⟩
  obtain ⟨hB,hBk⟩:=hB q hqn
  have hmo:=ZlO w.level (bs.getD q default) hl hB.kind hB.free hB.vx hB.vy
  have htm:0≤(bs.getD q default).timer∧(bs.getD q default).timer≤25:=by rcases hB.timer with e|e|e|e<;>omega
  have hlf:0≤(bs.getD q default).life:=by rcases hB.life with e|e<;>omega
  have hkd:=hB.kind
  obtain ⟨r1,r2,r3,r4,r5,r6,r7⟩:=Zdb w.level (bs.getD q default)
  by_cases hk2:(bs.getD q default).kind=2
  ·have ho:ZbS w.level (bs.getD q default)=some (bs.getD q default):=by
    unfold ZbS
    rw [if_neg fun h=>by omega,if_neg (by omega)]
   repeat' (first|refine pa ?_|(refine pb ?_ ?_<;>intro hg)|refine ZaX ?_|refine po ?_|fail)
   exact ⟨(q + 1,e + 1,_),⟨hqn,by rw [ZeF hqn ho,← he]⟩,by show bs.length - (q + 1) < bs.length - q;omega,by (exact ple)⟩
  by_cases hqs:q < w.scores.length
  ·have hk0:(bs.getD q default).kind=0:=hBk.2 hqs
   by_cases hl0:(bs.getD q default).life=0
   ·have ho:ZbS w.level (bs.getD q default)=some (bs.getD q default):=by
     unfold ZbS
     rw [if_neg fun h=>by omega,if_neg (by omega)]
    repeat' (first|refine pa ?_|(refine pb ?_ ?_<;>intro hg)|refine ZaX ?_|refine po ?_|fail)
    exact ⟨(q + 1,e + 1,_),⟨hqn,by rw [ZeF hqn ho,← he]⟩,by show bs.length - (q + 1) < bs.length - q;omega,by (exact ple)⟩
   ·have ho:ZbS w.level (bs.getD q default)=some (Zbd w.level (bs.getD q default)).1:=if_pos ⟨hk0,by omega⟩
    generalize Zbd w.level (bs.getD q default)=mv at hmo ho
    repeat' (first|refine pa ?_|(refine pb ?_ ?_<;>intro hg)|refine ZaX ?_|(refine Zab (n:=20) ?_;(first|refine Zaa hmo ?_))|refine po ?_|(refine ZpA ?_)|fail)
    exact ⟨(q + 1,e + 1,_),⟨hqn,by rw [ZeF hqn ho,← he]⟩,by show bs.length - (q + 1) < bs.length - q;omega,by (exact ple)⟩
  have hk1:(bs.getD q default).kind=1:=by
   have:(bs.getD q default).kind ≠ 0:=fun h=>hqs (hBk.1 h)
   omega
  have ho:ZbS w.level (bs.getD q default)=if (Zbd w.level (bs.getD q default)).2=true∨(bs.getD q default).timer - 1=0 then none else some { (Zbd w.level (bs.getD q default)).1 with timer:=(bs.getD q default).timer - 1 }:=by
   unfold ZbS
   rw [if_neg fun h=>by omega,if_pos hk1]
  generalize Zbd w.level (bs.getD q default)=mv at hmo ho r5
  rw [← r5] at ho htm
  cases hs:mv.2 with
  | true =>
   rw [if_pos (.inl hs)] at ho
   repeat' (first|refine pa ?_|(refine pb ?_ ?_<;>intro hg)|refine ZaX ?_|(refine Zab (n:=20) ?_;(first|refine Zaa hmo ?_))|refine po ?_|(refine ZpA ?_)|fail)
   exact ⟨(q + 1,e,els),⟨hqn,by rw [Zjx hqn ho];exact he⟩,by show bs.length - (q + 1) < bs.length - q;omega,by (exact ple)⟩
  | false =>
   by_cases h0:mv.1.timer - 1=0
   ·rw [if_pos (.inr h0)] at ho
    repeat' (first|refine pa ?_|(refine pb ?_ ?_<;>intro hg)|refine ZaX ?_|(refine Zab (n:=20) ?_;(first|refine Zaa hmo ?_))|refine po ?_|(refine ZpA ?_)|fail)
    exact ⟨(q + 1,e,els),⟨hqn,by rw [Zjx hqn ho];exact he⟩,by show bs.length - (q + 1) < bs.length - q;omega,by (exact ple)⟩
   ·rw [if_neg (by rintro (h|h);rw [hs] at h;cases h;exact h0 h)] at ho
    repeat' (first|refine pa ?_|(refine pb ?_ ?_<;>intro hg)|refine ZaX ?_|(refine Zab (n:=20) ?_;(first|refine Zaa hmo ?_))|refine po ?_|(refine ZpA ?_)|fail)
    exact ⟨(q + 1,e + 1,_),⟨hqn,by rw [ZeF hqn ho,← he]⟩,by show bs.length - (q + 1) < bs.length - q;omega,by (exact ple)⟩
 rintro ⟨e,els⟩ he
 have he:els=List.map bodyC (bs.filterMap (ZbS w.level)):=he
 subst he
 have hst2:bs.filterMap (ZbS w.level)=(st2 w row).1++(st2 w row).2:=by rw [← hbb];exact (ZjE p1 p2).1
 rw [hst2]
 refine pln ?_
 repeat' (first|(refine pth ?_)|((fail_if_success (with_reducible show aW _ _ _ (Code.seq (Code.seq (Code.region 26 _ _) _) _) _ _));(fail_if_success (with_reducible show aW _ _ _ (Code.seq (Code.region 26 _ _) _) _ _));(fail_if_success (with_reducible show aW _ _ _ (Code.region 26 _ _) _ _));(first|refine pc ?_|(refine pbc ?_ ?_<;>intro hg)))|(first|refine pl ?_|(refine pbl ?_ ?_<;>intro hg))|(first|(refine Zab (n:=20) ?_;(first|(refine Zp4 (m:=[(0,_,_),(1,_,_),(2,_,_),(3,_,_),(16,7016,0)]) (c3) (fun y hy=>?_);refine pmk ?_)))|refine po ?_)|fail)
 refine aW.reF rfl [] [(4,_),(0,_)] [(0,0,.box 30 [.hnd 1 0,.t (.int .i64 w.tick),.t (.int .i64 w.seed),.hnd 2 0,.hnd 7016 _]),(2,0,.row true true 3 (Zak (st4 w row).sc)),(7016,_,.row true true 114 (List.map bodyC ((st3 w row).ps++(st4 w row).left)))] [(1,_,_),(3,_,_)] (by (exact plei)) ?_
 rw [← hps4] at *
 generalize Nat.add 0 y=y2
 have hS4:=s1.ps
 clear c3 p1 p2 p3 q1 q2 q3 r1 r2 hps4 hps hrs hri hrl hst2 hst1 hmv hB
 have hnr:=Zfk w.seed
 have hnr2:=Zb1 w.seed
 have hsp:=ZlJ w.level hl
 have hrb:=Zht (Zaz w.seed) (Zay w.level).length
 have hspl:=Zla hl
 have hmod:(w.tick + 1).tmod 16=(w.tick + 1) % 16:=Int.tmod_eq_emod_of_nonneg (by omega)
 generalize hS:st4 w row=S at *
 have hsl:=Zal S.sc
 have hpl4:S.ps.length=w.scores.length:=hS4.len
 have hal4:(S.ps++S.left).length=S.ps.length + S.left.length:=List.length_append
 have hbl4:(List.map bodyC (S.ps++S.left)).length=S.ps.length + S.left.length:=by rw [List.length_map,List.length_append]
 rw [hgo] at hv
 generalize hb4:S.ps++S.left=bs4 at *
 refine pln ?_
 have hsl2:(List.map trackC (Zay w.level)).length=(Zay w.level).length:=List.length_map _
 by_cases hc1:(w.tick + 1) % 16=0
 case neg =>
  rw [Ze8 (.inl hc1)] at hv
  subst hv
  repeat' (first|refine pa ?_|(refine pb ?_ ?_<;>intro hg)|(refine Zab (n:=20) ?_;(first|refine Zaa hnr ?_|refine Zc5 hsp ?_))|refine po ?_|fail)
  refine ⟨(ep,y2),trivial,?_⟩
  (show Zbu _ _ _ _ _ _ _;refine Zbu.intro (by exact pU12) (vs:=[]) rfl rfl rfl (by exact pU3) rfl rfl (.inr ⟨rfl,True.intro,List.nodup_nil,rfl⟩))
 by_cases hc2:(Zay w.level).length=0
 ·rw [Ze8 (.inr (.inl (List.length_eq_zero_iff.1 hc2)))] at hv
  subst hv
  repeat' (first|refine pa ?_|(refine pb ?_ ?_<;>intro hg)|(refine Zab (n:=20) ?_;(first|refine Zaa hnr ?_|refine Zc5 hsp ?_))|refine po ?_|fail)
  refine ⟨(ep,y2),trivial,?_⟩
  (show Zbu _ _ _ _ _ _ _;refine Zbu.intro (by exact pU12) (vs:=[]) rfl rfl rfl (by exact pU3) rfl rfl (.inr ⟨rfl,True.intro,List.nodup_nil,rfl⟩))
 by_cases hc3:24≤bs4.length
 ·rw [Ze8 (.inr (.inr hc3))] at hv
  subst hv
  repeat' (first|refine pa ?_|(refine pb ?_ ?_<;>intro hg)|(refine Zab (n:=20) ?_;(first|refine Zaa hnr ?_|refine Zc5 hsp ?_))|refine po ?_|fail)
  refine ⟨(ep,y2),trivial,?_⟩
  (show Zbu _ _ _ _ _ _ _;refine Zbu.intro (by exact pU12) (vs:=[]) rfl rfl rfl (by exact pU3) rfl rfl (.inr ⟨rfl,True.intro,List.nodup_nil,rfl⟩))
 have hno:¬ ((w.tick + 1) % 16 ≠ 0∨Zay w.level=[]∨24≤bs4.length):=by
  rintro (h|h|h)
  ·exact h hc1
  ·exact hc2 (by rw [h];rfl)
  ·exact hc3 h
 have hrbi:=ZdH (Zaz w.seed) (Zay w.level).length
 obtain ⟨m,hm2⟩:=Int.eq_ofNat_of_zero_le hrbi.2.2.1
 have hml:m < (Zay w.level).length:=by omega
 have hs2:((Zay w.level).getD m default).length=2:=by
  obtain ⟨r,c,e,_⟩:=Zmi hl (Zdi hml)
  rw [e];rfl
 have hs3:=Zal ((Zay w.level).getD m default)
 rw [hm2] at hrb
 repeat' (first|refine pa ?_|(refine pb ?_ ?_<;>intro hg)|(refine Zab (n:=20) ?_;(first|refine Zaa hnr ?_|refine Zaa hrb ?_|refine Zc5 hsp ?_))|refine po ?_|fail)
 refine aW.loopF rfl (fun q:Nat=>[(16,.t (.int .i64 ((w.scores.length + q:Nat):Int))),(13,.t (.lst false 27 (List.map trackC (Zay w.level)))),(15,.t (.int .i64 (m:Nat)))]) [(4,_),(0,_)] (fun q=>[(0,0,.box 30 [.hnd 1 0,.t (.int .i64 (w.tick+1)),.t (.int .i64 (Zaj (Zaz w.seed) (Zay w.level).length).1),.hnd 2 0,.hnd 7016 (y2 + 1)])]) [(1,_,_),(2,_,_),(3,_,_),(7016,_,_)] (fun q=>q≤S.left.length∧∀ j,j < q→lies (((Zay w.level).getD m default).getD 0 default) (((Zay w.level).getD m default).getD 1 default) (bs4.getD (w.scores.length + j) default)=false) (fun q=>S.left.length - q) 0 ⟨Nat.zero_le _,fun j hj=>absurd hj (Nat.not_lt_zero _)⟩ (by (exact plei)) ?_
 rintro q hI
 obtain ⟨hq,hlo⟩:q≤S.left.length∧∀ j,j < q→lies (((Zay w.level).getD m default).getD 0 default) (((Zay w.level).getD m default).getD 1 default) (bs4.getD (w.scores.length + j) default)=false:=hI
 refine pln ?_
 by_cases hqn:q < S.left.length
 ·by_cases hk:(bs4.getD (w.scores.length + q) default).kind=2
  case neg =>
   repeat' (first|refine pa ?_|(refine pb ?_ ?_<;>intro hg)|refine po ?_|((apply pdq 43;(focus exact pdp);(focus ((refine pt0_ 0 ?_<;>refine pt9_ 1 ?_<;>refine ZaC 2 ?_<;>refine pt7_ 3 ?_<;>refine pt0_ 4 ?_<;>refine Za7 5 ?_<;>refine ZaC 6 ?_<;>refine pt7_ 7 ?_<;>refine Zbh 8 ?_<;>refine pt0_ 9 ?_<;>refine pg0_ 10 ?_<;>refine pg9_ 11 ?_<;>refine ZaK 12 ?_<;>refine pg7_ 13 ?_<;>refine pg0_ 14 ?_<;>refine Zf8 15 ?_<;>refine ZaK 16 ?_<;>refine pg7_ 17 ?_<;>refine pg0_ 18 ?_<;>refine pg0_ 19 ?_<;>refine Zf8 20 ?_<;>refine pg7_ 21 ?_<;>refine Zf8 22 ?_<;>refine pg7_ 23 ?_<;>refine ZcA 24 ?_<;>refine pt2_ 25 ?_<;>refine pt0_ 26 ?_<;>refine pg0_ 27 ?_<;>refine pg9_ 28 ?_<;>refine ZaK 29 ?_<;>refine pg7_ 30 ?_<;>refine pg0_ 31 ?_<;>refine Zf8 32 ?_<;>refine ZaK 33 ?_<;>refine pg7_ 34 ?_<;>refine pg0_ 35 ?_<;>refine pg0_ 36 ?_<;>refine Zf8 37 ?_<;>refine pg7_ 38 ?_<;>refine Zf8 39 ?_<;>refine pg7_ 40 ?_<;>refine ZcA 41 ?_<;>refine pt2_ 42 ?_<;>(refine ZaI ?_;exact ZaJ))))))|fail)
   exact ⟨q + 1,⟨hqn,ZdM hlo (decide_eq_false fun h=>hk h.1)⟩,by show S.left.length - (q + 1) < S.left.length - q;omega,by (exact ple)⟩
  by_cases hx:(bs4.getD (w.scores.length + q) default).x=((Zay w.level).getD m default).getD 0 default
  case neg =>
   repeat' (first|refine pa ?_|(refine pb ?_ ?_<;>intro hg)|refine pxk1 ?_|refine pxk0 ?_|refine po ?_|(refine T82d2 ?_)|fail)
   exact ⟨q + 1,⟨hqn,ZdM hlo (decide_eq_false fun h=>hx h.2.1)⟩,by show S.left.length - (q + 1) < S.left.length - q;omega,by (exact ple)⟩
  by_cases hy:(bs4.getD (w.scores.length + q) default).y=((Zay w.level).getD m default).getD 1 default
  case neg =>
   repeat' (first|refine pa ?_|(refine pb ?_ ?_<;>intro hg)|refine pxk1 ?_|refine pxk0 ?_|refine po ?_|(refine T82d2 ?_)|fail)
   exact ⟨q + 1,⟨hqn,ZdM hlo (decide_eq_false fun h=>hy h.2.2)⟩,by show S.left.length - (q + 1) < S.left.length - q;omega,by (exact ple)⟩
  rw [Zk9 hno hm2 (q:=w.scores.length + q) (by omega) (decide_eq_true ⟨hk,hx,hy⟩)] at hv
  subst hv
  repeat' (first|refine pa ?_|(refine pb ?_ ?_<;>intro hg)|refine pxk1 ?_|refine pxk0 ?_|refine po ?_|(refine T82d2 ?_)|fail)
  refine ⟨(ep,y2),trivial,?_⟩
  (show Zbu _ _ _ _ _ _ _;refine Zbu.intro (by exact pU12) (vs:=[]) rfl rfl rfl (by exact pU3) rfl rfl (.inr ⟨rfl,True.intro,List.nodup_nil,rfl⟩))
 ·obtain rfl:q=S.left.length:=by omega
  have hall:∀ j,j < bs4.length→lies (((Zay w.level).getD m default).getD 0 default) (((Zay w.level).getD m default).getD 1 default) (bs4.getD j default)=false:=fun j hj=>by
   by_cases hjn:j < w.scores.length
   ·have:(bs4.getD j default).kind=0:=by rw [← hb4,Zbt (by omega)];exact hS4.kind j hjn
    exact decide_eq_false fun h=>by have:=h.1;omega
   ·have:=hlo (j - w.scores.length) (by omega)
    rwa [show w.scores.length + (j - w.scores.length)=j by omega] at this
  rw [Zk8 hno hm2 hall] at hv
  rw [show v.tick=w.tick + 1 by rw [hv],show v.seed=(Zaj (Zaz w.seed) (Zay w.level).length).1 by rw [hv],show v.scores=S.sc by rw [hv],show List.map bodyC v.bodies=List.map bodyC bs4++[bodyC ⟨2,0,((Zay w.level).getD m default).getD 0 default,((Zay w.level).getD m default).getD 1 default,0,0,0,0,0⟩] by rw [hv];exact ZbK]
  repeat' (first|refine pa ?_|(refine pb ?_ ?_<;>intro hg)|refine ZaX ?_|refine pxk1 ?_|refine pxk0 ?_|refine po ?_|(refine pdr [] 23 (by (apply pct 23 8388607 0;(focus (intro hd7;(apply pct 23 1048575 3;(focus (intro hd6;(apply pct 23 524287 4;(focus (intro hd5;(apply pct 23 524271 5;(focus (intro hd4;(apply pct 23 262143 5;(focus (intro hd3;(apply pct 23 262127 6;(focus (intro hd2;(apply pct 23 131071 6;(focus (intro hd1;(refine pt0_ 0 ?_<;>refine pt0_ 1 ?_<;>refine pt9_ 2 ?_<;>refine ZaC 3 ?_<;>refine pt0_ 5 ?_<;>refine pt0_ 6 ?_<;>(refine pti 7 ?_;(first|refine pzk1 ?_|refine pzk0 ?_|refine pq17 ?_))<;>refine pt7_ 8 ?_<;>(refine pti 9 ?_;(first|refine pzk1 ?_|refine pzk0 ?_|refine pq17 ?_))<;>refine pt7_ 10 ?_<;>refine pt0_ 11 ?_<;>refine pt0_ 12 ?_<;>(refine pti 13 ?_;(first|refine pzk1 ?_|refine pzk0 ?_|refine pq17 ?_))<;>refine pt7_ 14 ?_<;>(refine pti 15 ?_;(first|refine pzk1 ?_|refine pzk0 ?_|refine pq17 ?_))<;>refine pt7_ 16 ?_<;>(refine pq2 4 17 ?_ ?_;(focus ((refine pop ?_;refine pk7 ?_)<;>(exact ptm hd1)));(focus ((refine pop ?_;refine pk5 ?_)<;>(exact ptm hd2)))))));(case main=>((refine pq1 17 ?_;(focus ((refine pop ?_;refine pk5 ?_)<;>(exact ptm hd3)))))))));(case main=>((refine pq2 4 18 ?_ ?_;(focus ((refine pop ?_;refine pk7 ?_)<;>(exact ptw hd3)));(focus ((refine pop ?_;(first|refine ZaX ?_|refine pk6 ?_))<;>(exact ptm hd4)))))))));(case main=>((refine pq1 18 ?_;(focus ((refine pop ?_;(first|refine ZaX ?_|refine pk6 ?_))<;>(exact ptm hd5)))))))));(case main=>((refine pq1 4 ?_;(focus ((refine pop ?_;refine pk7 ?_)<;>(exact ptw hd5)))))))));(case main=>((refine pq1 19 ?_;(focus ((refine pop ?_;refine pk20 ?_)<;>(exact ptm hd6)))))))));(case main=>(refine pt9_ 20 ?_<;>refine ZaC 21 ?_<;>(refine pq1 22 ?_;(focus ((refine pop ?_;refine pk8 ?_)<;>(exact ptm hd7)))))))));(case main=>((refine ZaI ?_;exact ZaJ))))) ?_)|fail)
  refine ⟨(ep,y2 + 1),trivial,?_⟩
  (show Zbu _ _ _ _ _ _ _;refine Zbu.intro (by exact pU12) (vs:=[]) rfl rfl rfl (by exact pU3) rfl rfl (.inr ⟨rfl,True.intro,List.nodup_nil,rfl⟩))
end Go.Proofs.YthfaongbpdnlnaaGreat
