/- What is proved: the contract on what players do in a tick, the program's.
   Conditions: the world is valid. -/
import Derived.Test.YthfaongbpdnlnaaGreatT90
import Derived.Test.YthfaongbpdnlnaaGreatT71
import Derived.Test.YthfaongbpdnlnaaGreatT74
namespace Go.Proofs.YthfaongbpdnlnaaGreat
set_option maxHeartbeats 4000000
set_option maxRecDepth 20000
set_option linter.unusedSimpArgs false
set_option linter.unusedVariables false
open Go.RowKit Ab
theorem T76d1 {X Y:Prop} (h:Y) (r:Hld Y→X:=by intro h;exact pdr [0,1,2,5] 8 (by (apply pct 8 255 0;(focus (intro hd1;(refine pt0_ 0 ?_<;>refine pt9_ 1 ?_<;>refine ZaC 2 ?_<;>refine pt7_ 3 ?_<;>refine pt0_ 4 ?_<;>refine pt7_ 5 ?_<;>refine Za7 6 ?_<;>(refine pq1 7 ?_;(focus ((refine pop ?_;(first|refine Ziw ?_|refine pk8 ?_))<;>(exact ptm hd1)))))));(case main=>((refine ZaI ?_;exact ZaJ))))) h.out):X:=r ⟨h⟩
theorem ZbC {bs:List Bd} {k:Nat} {b:Bd}:List.map bodyC (bs.set k b)=(List.map bodyC bs).set k (bodyC b):=List.map_set
theorem ZbK {bs:List Bd} {b:Bd}:List.map bodyC (bs++[b])=List.map bodyC bs++[bodyC b]:=by rw [List.map_append];rfl
theorem Zbt {ps rs:List Bd} {k:Nat} (h:k < ps.length):(ps++rs).getD k default=ps.getD k default:=by rw [Zd5,if_pos h]
theorem Zde {ps rs:List Bd} {k:Nat} {b:Bd} (h:k < ps.length):(ps++rs).set k b=ps.set k b++rs:=List.set_append_left _ _ h
structure PlI (l:Lv) (row:List Int) (n:Nat) (s0:List Bd×List Bd) (k:Nat) (s:List Bd×List Bd):Prop where
 le:k≤n
 eq:s=plTo l row s0 k
 ps:PsOk l n s.1
 rs:RsOk l n s.2
 len:s.1.length + s.2.length≤24
theorem PlI.start {l:Lv} {row:List Int} {n:Nat} {s0:List Bd×List Bd} (hp:PsOk l n s0.1) (hr:RsOk l n s0.2) (hm:s0.1.length + s0.2.length≤24):PlI l row n s0 0 s0:=⟨Nat.zero_le _,rfl,hp,hr,hm⟩
theorem PlI.next {l:Lv} {row:List Int} {n:Nat} {s0 s s':List Bd×List Bd} {k:Nat} (h:PlI l row n s0 k s) (hl:ZaZ l) (hn:n≤4) (hk:k < n) (e:s'=Zdq l k (row.getD k default) s):PlI l row n s0 (k + 1) s':=by
 obtain ⟨h1,h2,h3,_⟩:=ZmX (i:=row.getD k default) hl hn hk h.ps h.rs h.len
 subst e
 exact ⟨hk,by rw [h.eq];rfl,h1,h2,h3⟩
theorem Zhm (l:Lv) (tick seed:Int) (sc row:List Int) (s0:List Bd×List Bd) (hl:ZaZ l) (hn:1≤sc.length∧sc.length≤4) (hp:PsOk l sc.length s0.1) (hrs:RsOk l sc.length s0.2) (hm:s0.1.length + s0.2.length≤24) (hrow:row.length=sc.length) (hin:∀ k,k < sc.length→0≤row.getD k default∧row.getD k default≤15) :
  AMP Tryz.prog 210 [(0,0,.box 30 [.hnd 1 0,.t (.int .i64 tick),.t (.int .i64 seed),.hnd 2 0,.hnd 3 0]),(1,0,.row true true 9 (Zai l)),(2,0,.row true true 3 (Zak sc)),(3,0,.row true true 114 (List.map bodyC (s0.1++s0.2)))] [.ptr 0 0 0 0,.t (ints 3 row)] (fun x:Nat=>[(0,0,.box 30 [.hnd 1 0,.t (.int .i64 tick),.t (.int .i64 seed),.hnd 2 0,.hnd 3 x]),(1,0,.row true true 9 (Zai l)),(2,0,.row true true 3 (Zak sc)),(3,x,.row true true 114 (List.map bodyC ((plTo l row s0 sc.length).1++(plTo l row s0 sc.length).2)))]) (fun _=>.tup []) (fun _=>True):=by
 have hsl:=Zal sc
 have hrl:=Zal row
 have hsl2:=hn
 refine AMP.go Tryz.func210 Tryz.ntmps210 fun B W hr=>?_
 repeat' (first|refine pa ?_|(refine pb ?_ ?_<;>intro hg)|refine po ?_|fail)
 refine aW.loopF rfl (fun q:Nat×Nat×(List Bd×List Bd)=>[(13,.t (.int .i64 (q.1:Nat)))]) [(12,_),(1,_),(0,_)] (fun q=>[(0,0,.box 30 [.hnd 1 0,.t (.int .i64 tick),.t (.int .i64 seed),.hnd 2 0,.hnd 3 q.2.1]),(3,q.2.1,.row true true 114 (List.map bodyC (q.2.2.1++q.2.2.2)))]) [(1,_,_),(2,_,_)] (fun q=>PlI l row sc.length s0 q.1 q.2.2) (fun q=>sc.length - q.1) (0,0,s0) (PlI.start hp hrs hm) (by (exact plei)) ?_
 rintro ⟨k,ep,ps,rs⟩ hI
 have hI:PlI l row sc.length s0 k (ps,rs):=hI
 have hk:=hI.le
 have hm:ps.length + rs.length≤24:=hI.len
 have hpl:ps.length=sc.length:=hI.ps.len
 have hbl:(List.map bodyC (ps++rs)).length=ps.length + rs.length:=by rw [List.length_map,List.length_append]
 have hal:(ps++rs).length=ps.length + rs.length:=List.length_append
 refine pln ?_
 by_cases hkn:k < sc.length
 ·have hb:ZbF l sc.length (ps.getD k default):=hI.ps.ok k hkn
  have hb0:(ps.getD k default).kind=0:=hI.ps.kind k hkn
  have hbo:(ps.getD k default).owner=k:=hI.ps.owner k hkn
  have hg:(ps++rs).getD k default=ps.getD k default:=Zbt (by omega)
  have hin1:=hin k hkn
  have hset:∀ b:Bd,(List.map bodyC (ps++rs)).set k (bodyC b)=List.map bodyC (ps.set k b++rs):=fun b=>by rw [← Zde (by omega),ZbC]
  have hone:∀ s',s'=Zdq l k (row.getD k default) (ps,rs)→PlI l row sc.length s0 (k + 1) s':=fun s' e=>hI.next hl hn.2 hkn e
  by_cases h0:(ps.getD k default).life=0
  ·have ht:1≤(ps.getD k default).timer∧(ps.getD k default).timer≤20:=by rcases hb.timer with e|e|e|e<;>omega
   have h0':((ps++rs).getD k default).life=0:=by rw [hg];exact h0
   have ht':1≤((ps++rs).getD k default).timer∧((ps++rs).getD k default).timer≤20:=by rw [hg];exact ht
   have hfr:=Zey l (k:Int)
   by_cases h1:((ps++rs).getD k default).timer - 1=0
   ·have hs':Zdq l k (row.getD k default) (ps,rs)=(ps.set k (Zfn l k),rs):=by
     unfold Zdq
     rw [if_pos h0,if_pos (by rw [← hg];exact h1)]
    repeat' (first|refine pa ?_|(refine pb ?_ ?_<;>intro hg)|refine Ziw ?_|(refine Zab (n:=20) ?_;(first|refine Zaa hfr ?_))|refine po ?_|(refine T76d1 ?_)|fail)
    exact ⟨(k + 1,ep,(ps.set k (Zfn l k),rs)),hone _ hs'.symm,by show sc.length - (k + 1) < sc.length - k;omega,by rw [← hset];(exact ple)⟩
   ·have hs':Zdq l k (row.getD k default) (ps,rs)=(ps.set k { (ps++rs).getD k default with timer:=((ps++rs).getD k default).timer - 1 },rs):=by
     unfold Zdq
     rw [if_pos h0,if_neg (by rw [← hg];exact h1),hg]
    repeat' (first|refine pa ?_|(refine pb ?_ ?_<;>intro hg)|refine Ziw ?_|(refine Zab (n:=20) ?_;(first|refine Zaa hfr ?_))|refine po ?_|(refine T76d1 ?_)|fail)
    exact ⟨(k + 1,ep,(ps.set k { (ps++rs).getD k default with timer:=((ps++rs).getD k default).timer - 1 },rs)),hone _ hs'.symm,by show sc.length - (k + 1) < sc.length - k;omega,by rw [← hset];(exact ple)⟩
  ·have hlife:1≤(ps.getD k default).life:=by rcases hb.life with e|e<;>omega
   rw [← hg] at hb hb0 hbo hlife h0
   have hst:=Zhi l sc.length ((ps++rs).getD k default) (row.getD k default) hl hb hb0 hlife (by omega) hin1
   obtain ⟨q1,q2,q3,q4,q5,q6,q7⟩:=ZjM (i:=row.getD k default) hb hb0 hlife
   have hsh:=Zns (ZaQ l ((ps++rs).getD k default) (row.getD k default)).1 q1.pos q7
   have hpl:Zdq l k (row.getD k default) (ps,rs)=if (ZaQ l ((ps++rs).getD k default) (row.getD k default)).2=true∧ps.length + rs.length < 24 then (ps.set k (ZaQ l ((ps++rs).getD k default) (row.getD k default)).1,rs++[Zcn (ZaQ l ((ps++rs).getD k default) (row.getD k default)).1]) else (ps.set k (ZaQ l ((ps++rs).getD k default) (row.getD k default)).1,rs):=by
    unfold Zdq
    rw [if_neg (by rw [← hg];exact h0)]
    simp only [hg]
   generalize hsv:ZaQ l ((ps++rs).getD k default) (row.getD k default)=sv at hst hsh hpl
   repeat' (first|refine pa ?_|(refine pb ?_ ?_<;>intro hg)|(refine Zab (n:=20) ?_;(first|refine Zaa hst ?_))|refine po ?_|(refine pdr [0,1,2,5] 16 (by (apply pct 16 32767 1;(focus (intro hd5;(apply pct 16 9215 5;(focus (intro hd4;(apply pct 16 16383 2;(focus (intro hd3;(apply pct 16 8703 6;(focus (intro hd2;(apply pct 16 1023 6;(focus (intro hd1;(refine pt0_ 0 ?_<;>refine pt9_ 1 ?_<;>refine ZaC 2 ?_<;>refine pt7_ 3 ?_<;>refine pt7_ 4 ?_<;>refine pt0_ 5 ?_<;>refine pt0_ 6 ?_<;>refine Za7 7 ?_<;>refine pt7_ 8 ?_<;>(refine pq2 9 13 ?_ ?_;(focus ((refine pop ?_;(refine Zab (n:=20) ?_;(first|refine Zaa hst ?_)))<;>(exact ptm hd1)));(focus ((refine pop ?_;refine pk3 ?_)<;>(exact ptm hd2)))))));(case main=>(refine pt0_ 10 ?_<;>refine Zes 11 ?_<;>refine Zes 12 ?_<;>(refine pq1 13 ?_;(focus ((refine pop ?_;refine pk3 ?_)<;>(exact ptm hd3)))))))));(case main=>((refine pq1 9 ?_;(focus ((refine pop ?_;(refine Zab (n:=20) ?_;(first|refine Zaa hst ?_)))<;>(exact ptm hd4)))))))));(case main=>((refine pq1 14 ?_;(focus ((refine pop ?_;refine pk8 ?_)<;>(exact ptm hd5)))))))));(case main=>(refine pt0_ 10 ?_<;>refine Zes 11 ?_<;>refine Zes 12 ?_<;>(refine pq1 14 ?_;(focus ((refine pop ?_;refine pk8 ?_)<;>(exact ptw hd5)))))))));(case main=>(refine pt1_ 15 ?_<;>(refine ZaI ?_;exact ZaJ))))) ?_)|fail)
   repeat' (first|(refine pth ?_)|((fail_if_success (with_reducible show aW _ _ _ (Code.seq (Code.seq (Code.region 11 _ _) _) _) _ _));(fail_if_success (with_reducible show aW _ _ _ (Code.seq (Code.region 11 _ _) _) _ _));(fail_if_success (with_reducible show aW _ _ _ (Code.region 11 _ _) _ _));(first|refine pc ?_|(refine pbc ?_ ?_<;>intro hg)))|(first|refine pl ?_|(refine pbl ?_ ?_<;>intro hg))|(first|refine Ziw ?_|refine po ?_)|(refine pdr [0,1,2,5,6] 8 (by (apply pct 8 255 0;(focus (intro hd1;(refine pt0_ 0 ?_<;>refine pt9_ 1 ?_<;>refine ZaC 2 ?_<;>refine pt7_ 3 ?_<;>refine pt0_ 4 ?_<;>refine pt7_ 5 ?_<;>refine Za7 6 ?_<;>(refine pq1 7 ?_;(focus ((refine pop ?_;(first|refine Ziw ?_|refine pk8 ?_))<;>(exact ptm hd1)))))));(case main=>((refine ZaI ?_;exact ZaJ))))) ?_)|fail)
   refine aW.reF rfl [] [(13,_),(12,_),(7,_),(6,_),(4,_),(1,_),(0,_)] [(3,ep,.row true true 114 (List.map bodyC (ps.set k sv.1++rs)))] [(0,_,_),(1,_,_),(2,_,_),(6,_,_)] (by rw [← hset];(exact plei)) ?_
   have hal2:(ps.set k sv.1++rs).length=ps.length + rs.length:=by rw [List.length_append,List.length_set]
   have hbl2:(List.map bodyC (ps.set k sv.1++rs)).length=ps.length + rs.length:=by rw [List.length_map,List.length_append,List.length_set]
   refine pln ?_
   cases hf:sv.2 with
   | false =>
    repeat' (first|refine pa ?_|(refine pb ?_ ?_<;>intro hg)|refine po ?_|fail)
    exact ⟨(k + 1,ep,(ps.set k sv.1,rs)),hone _ (by rw [hpl,if_neg (by rw [hf];simp)]),by show sc.length - (k + 1) < sc.length - k;omega,by (exact ple)⟩
   | true =>
    by_cases hlt:ps.length + rs.length < 24
    ·repeat' (first|refine pa ?_|(refine pb ?_ ?_<;>intro hg)|refine ZaX ?_|(refine Zab (n:=20) ?_;(first|refine Zaa hsh ?_))|refine po ?_|(refine pdr [6] 12 (by (apply pct 12 4095 0;(focus (intro hd7;(apply pct 12 511 3;(focus (intro hd6;(apply pct 12 255 4;(focus (intro hd5;(apply pct 12 239 5;(focus (intro hd4;(apply pct 12 127 5;(focus (intro hd3;(apply pct 12 111 6;(focus (intro hd2;(apply pct 12 63 6;(focus (intro hd1;(refine pt0_ 0 ?_<;>refine pt0_ 1 ?_<;>refine pt9_ 2 ?_<;>refine ZaC 3 ?_<;>refine pt7_ 5 ?_<;>(refine pq2 4 6 ?_ ?_;(focus ((refine pop ?_;refine pk7 ?_)<;>(exact ptm hd1)));(focus ((refine pop ?_;(refine Zab (n:=20) ?_;(first|refine Zaa hsh ?_)))<;>(exact ptm hd2)))))));(case main=>((refine pq1 6 ?_;(focus ((refine pop ?_;(refine Zab (n:=20) ?_;(first|refine Zaa hsh ?_)))<;>(exact ptm hd3)))))))));(case main=>((refine pq2 4 7 ?_ ?_;(focus ((refine pop ?_;refine pk7 ?_)<;>(exact ptw hd3)));(focus ((refine pop ?_;(first|refine ZaX ?_|refine pk6 ?_))<;>(exact ptm hd4)))))))));(case main=>((refine pq1 7 ?_;(focus ((refine pop ?_;(first|refine ZaX ?_|refine pk6 ?_))<;>(exact ptm hd5)))))))));(case main=>((refine pq1 4 ?_;(focus ((refine pop ?_;refine pk7 ?_)<;>(exact ptw hd5)))))))));(case main=>((refine pq1 8 ?_;(focus ((refine pop ?_;refine pk20 ?_)<;>(exact ptm hd6)))))))));(case main=>(refine pt9_ 9 ?_<;>refine ZaC 10 ?_<;>(refine pq1 11 ?_;(focus ((refine pop ?_;refine pk8 ?_)<;>(exact ptm hd7)))))))));(case main=>((refine ZaI ?_;exact ZaJ))))) ?_)|fail)
     exact ⟨(k + 1,ep + 1,(ps.set k sv.1,rs++[Zcn sv.1])),hone _ (by rw [hpl,if_pos ⟨hf,hlt⟩]),by show sc.length - (k + 1) < sc.length - k;omega,by rw [← List.append_assoc,ZbK];(exact ple)⟩
    ·repeat' (first|refine pa ?_|(refine pb ?_ ?_<;>intro hg)|refine po ?_|fail)
     exact ⟨(k + 1,ep,(ps.set k sv.1,rs)),hone _ (by rw [hpl,if_neg fun e=>hlt e.2]),by show sc.length - (k + 1) < sc.length - k;omega,by (exact ple)⟩
 ·obtain rfl:k=sc.length:=by omega
  have he:=hI.eq
  repeat' (first|refine pa ?_|(refine pb ?_ ?_<;>intro hg)|refine po ?_|fail)
  rw [← he]
  refine ⟨ep,trivial,?_⟩
  (show Zbu _ _ _ _ _ _ _;refine Zbu.intro (by exact pU12) (vs:=[]) rfl rfl rfl (by exact pU3) rfl rfl (.inr ⟨rfl,True.intro,List.nodup_nil,rfl⟩))
end Go.Proofs.YthfaongbpdnlnaaGreat
