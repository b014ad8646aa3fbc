/- What is proved: contracts on the statements' own functions of levels, bodies and worlds.
   Conditions: none beyond those that each lemma names. -/
import Derived.Test.YthfaongbpdnlnaaGreatT49ub
namespace Go.Proofs.YthfaongbpdnlnaaGreat
set_option maxHeartbeats 4000000
set_option maxRecDepth 20000
set_option linter.unusedSimpArgs false
set_option linter.unusedVariables false
open Go.RowKit Ab
theorem ZiS {P:Program} {e:TypeId} {bs:List Bd} (h:RdT P (.lst true e (bs.map bodyC))):bs.length≤9223372036854775807:=by
 have:=(ZhS h).1
 rwa [List.length_map] at this
theorem Znv (b:Bd):AC Tryz.prog 229 [.agg [.t (.int .i64 b.kind),.t (.int .i64 b.owner),.t (.int .i64 b.x),.t (.int .i64 b.y),.t (.int .i64 b.vx),.t (.int .i64 b.vy),.t (.int .i64 b.aim),.t (.int .i64 b.life),.t (.int .i64 b.timer)]] (.agg [.t (.int .i64 b.kind),.t (.int .i64 b.owner),.t (.int .i64 b.x),.t (.int .i64 b.y),.t (.int .i64 b.vx),.t (.int .i64 b.vy),.t (.int .i64 b.aim),.t (.int .i64 b.life),.t (.int .i64 b.timer)]):=by
 refine AC.go Tryz.func229 Tryz.ntmps229 fun B W hr=>?_
 repeat' (first|refine pa ?_|(refine pb ?_ ?_<;>intro hg)|refine po ?_|fail)
 all_goals refine pfin ?_
 (exact pgiv)
theorem Znt (b:Bd):AC Tryz.prog 188 [.agg [.t (.int .i64 b.kind),.t (.int .i64 b.owner),.t (.int .i64 b.x),.t (.int .i64 b.y),.t (.int .i64 b.vx),.t (.int .i64 b.vy),.t (.int .i64 b.aim),.t (.int .i64 b.life),.t (.int .i64 b.timer)],.agg [.t (.int .i64 b.kind),.t (.int .i64 b.owner),.t (.int .i64 b.x),.t (.int .i64 b.y),.t (.int .i64 b.vx),.t (.int .i64 b.vy),.t (.int .i64 b.aim),.t (.int .i64 b.life),.t (.int .i64 b.timer)]] (.t (.bool true)):=by
 refine AC.go Tryz.func188 Tryz.ntmps188 fun B W hr=>?_
 repeat' (first|refine pa ?_|(refine pb ?_ ?_<;>intro hg)|refine po ?_|fail)
 all_goals refine pfin ?_
 all_goals exact .inl rfl
def szB (bs:List Bd) (l:Int):Int:=if l - bs.length < 0 then -1 else l - bs.length
theorem Zlx (bs:List Bd) (l:Int) (hl:0≤l):AC Tryz.prog 175 [.t (.lst true 204 (bs.map bodyC)),.t (.int .i64 l)] (.t (.int .i64 (szB bs l))):=by
 refine AC.go Tryz.func175 Tryz.ntmps175 fun B W hr=>?_
 obtain ⟨us,hus⟩:=hr
 have h1:=ZiS (ZaR hus (i:=0) rfl)
 have h2:=ZcJ (ZaR hus (i:=1) rfl)
 clear hus
 repeat' (first|refine pa ?_|(refine pb ?_ ?_<;>intro hg)|refine po ?_|fail)
 all_goals refine pfin ?_
 ·exact .inl (congrArg (T.int .i64) (by rw [szB,if_pos (by omega)]))
 ·exact .inl (congrArg (T.int .i64) (by rw [szB,if_neg (by omega)]))
theorem ZlC (bs:List Bd) (hx:bs.length≤1048576):AC Tryz.prog 181 [.t (.lst true 204 (bs.map bodyC))] (.fr true 114 (bs.map bodyC)):=by
 refine AC.go Tryz.func181 Tryz.ntmps181 fun B W hr=>?_
 repeat' (first|refine pa ?_|(refine pb ?_ ?_<;>intro hg)|refine po ?_|fail)
 refine aW.loopF rfl (fun q:Nat×List (List T)=>[(4,.t (.int .i64 q.1)),(3,.hnd 7 1)]) [(0,_)] (fun q=>[(7,1,.row true true 114 q.2)]) [] (fun q=>Za8 bodyC 9 bs q.2 q.1) (fun q=>bs.length - q.1) (0,_) (Za8.init (z:=[.int .i64 0,.int .i64 0,.int .i64 0,.int .i64 0,.int .i64 0,.int .i64 0,.int .i64 0,.int .i64 0,.int .i64 0]) rfl) (by (exact plei)) ?_
 rintro ⟨k,els⟩ hI
 have hI:Za8 bodyC 9 bs els k:=hI
 obtain ⟨hI1,hI2⟩:k≤bs.length∧els.length=bs.length:=⟨hI.le,hI.len⟩
 have hto:=Znv (bs.getD k default)
 refine pln ?_
 repeat' (first|refine pa ?_|(refine pb ?_ ?_<;>intro hg)|refine Ziw ?_|(refine Zab (n:=20) ?_;(first|refine Zaa hto ?_))|refine po ?_|fail)
 ·exact ⟨(k + 1,_),hI.step (by omega) rfl rfl,by show bs.length - (k + 1) < bs.length - k;omega,by (exact ple)⟩
 ·have hk:k=bs.length:=by omega
  subst hk
  have he:=hI.all
  subst he
  refine pfin ?_
  exact rfl
theorem Zls (bs:List Bd):AC Tryz.prog 108 [.t (.lst true 114 (bs.map bodyC)),.t (.lst true 114 (bs.map bodyC))] (.t (.bool true)):=by
 refine AC.go Tryz.func108 Tryz.ntmps108 fun B W hr=>?_
 obtain ⟨us,hus⟩:=hr
 have hl:=ZiS (ZaR hus (i:=0) rfl)
 clear hus
 repeat' (first|refine pa ?_|(refine pb ?_ ?_<;>intro hg)|refine po ?_|((apply pdq 10;(focus exact pdp);(focus ((apply pct 10 511 1;(focus (intro hd1;(refine pt0_ 0 ?_<;>refine pt0_ 1 ?_<;>refine Za7 2 ?_<;>refine pt7_ 3 ?_<;>refine pt0_ 4 ?_<;>refine pt0_ 5 ?_<;>refine Za7 6 ?_<;>refine pt7_ 7 ?_<;>(refine pq1 8 ?_;(focus ((refine pop ?_;(refine Zab (n:=20) ?_;(first|fail)))<;>(exact ptm hd1)))))));(case main=>(refine Zf9 9 ?_<;>(refine ZaI ?_;exact ZaJ))))))))|fail)
 refine aW.loopF rfl (fun q:Nat=>[(5,.t (.int .i64 q))]) [(1,_),(0,_)] (fun q=>[]) [] (fun q=>q≤bs.length) (fun q=>bs.length - q) 0 (Nat.zero_le _) (by (exact plei)) ?_
 intro k hk
 have he:=Znt (bs.getD k default)
 refine pln ?_
 repeat' (first|refine pa ?_|(refine pb ?_ ?_<;>intro hg)|(refine Zab (n:=20) ?_;(first|refine Zaa he ?_))|refine po ?_|((apply pdq 10;(focus exact pdp);(focus ((apply pct 10 511 1;(focus (intro hd1;(refine pt0_ 0 ?_<;>refine pt0_ 1 ?_<;>refine Za7 2 ?_<;>refine pt7_ 3 ?_<;>refine pt0_ 4 ?_<;>refine pt0_ 5 ?_<;>refine Za7 6 ?_<;>refine pt7_ 7 ?_<;>(refine pq1 8 ?_;(focus ((refine pop ?_;(refine Zab (n:=20) ?_;(first|refine Zaa he ?_)))<;>(exact ptm hd1)))))));(case main=>(refine Zf9 9 ?_<;>(refine ZaI ?_;exact ZaJ))))))))|fail)
 ·exact ⟨k + 1,by omega,by omega,by (exact ple)⟩
 ·exact pfr
theorem ZlF (l:Lv) (hx:l.length≤1048576):AC Tryz.prog 180 [.agg [.t (.lst true 9 (Zai l))]] (.agg [.fr true 9 (Zai l)]):=by
 have hto:=Zji l hx
 refine AC.go Tryz.func180 Tryz.ntmps180 fun B W hr=>?_
 repeat' (first|refine pa ?_|(refine pb ?_ ?_<;>intro hg)|(refine Zab (n:=20) ?_;(first|refine pz3 hto ?_))|refine po ?_|fail)
 all_goals refine pfin ?_
 (exact pgiv)
theorem Zlv (l:Lv):AC Tryz.prog 106 [.agg [.t (.lst true 9 (Zai l))],.agg [.t (.lst true 9 (Zai l))]] (.t (.bool true)):=by
 have he:=Zi8 l
 refine AC.go Tryz.func106 Tryz.ntmps106 fun B W hr=>?_
 repeat' (first|refine pa ?_|(refine pb ?_ ?_<;>intro hg)|(refine Zab (n:=20) ?_;(first|refine Zaa he ?_))|refine po ?_|fail)
 all_goals refine pfin ?_
 all_goals exact .inl rfl
def neg1 (x:Int):Int:=if x < 0 then -1 else x
theorem Zlz (l:Lv) (n:Int) (hn:0≤n):AC Tryz.prog 174 [.agg [.t (.lst true 9 (Zai l))],.t (.int .i64 n)] (.t (.int .i64 (neg1 (szS l n)))):=by
 have hs:=Zjh l n hn
 by_cases h:szS l n < 0
 ·rw [show neg1 (szS l n)=-1 from if_pos h]
  refine AC.go Tryz.func174 Tryz.ntmps174 fun B W hr=>?_
  repeat' (first|refine pa ?_|(refine pb ?_ ?_<;>intro hg)|(refine Zab (n:=20) ?_;(first|refine Zaa hs ?_))|refine po ?_|fail)
  exact pfr
 ·rw [show neg1 (szS l n)=szS l n from if_neg h]
  refine AC.go Tryz.func174 Tryz.ntmps174 fun B W hr=>?_
  repeat' (first|refine pa ?_|(refine pb ?_ ?_<;>intro hg)|(refine Zab (n:=20) ?_;(first|refine Zaa hs ?_))|refine po ?_|fail)
  exact pfr
theorem Zhr (l:Lv) (tick seed:Int) (sc:List Int) (bs:List Bd) (h1:l.length≤1048576) (h2:sc.length≤1048576) (h3:bs.length≤1048576):AC Tryz.prog 99 [.agg [.t (.lst true 9 (Zai l)),.t (.int .i64 tick),.t (.int .i64 seed),.t (ints 3 sc),.t (.lst true 204 (bs.map bodyC))]] (.agg [.fr true 9 (Zai l),.t (.int .i64 tick),.t (.int .i64 seed),.fr true 3 (Zak sc),.fr true 114 (bs.map bodyC)]):=by
 have g1:=ZlF l h1
 have g2:=ZeX sc h2
 have g3:=ZlC bs h3
 refine AC.go Tryz.func99 Tryz.ntmps99 fun B W hr=>?_
 repeat' (first|refine pa ?_|(refine pb ?_ ?_<;>intro hg)|(refine Zab (n:=20) ?_;(first|refine pz3 g1 ?_|refine pz3 g2 ?_|refine pz3 g3 ?_))|refine po ?_|fail)
 all_goals refine pfin ?_
 (exact pgiv)
theorem Zd1 (l:Lv) (tick seed:Int) (sc:List Int) (bs:List Bd):AC Tryz.prog 33 [.agg [.t (.lst true 9 (Zai l)),.t (.int .i64 tick),.t (.int .i64 seed),.t (ints 3 sc),.t (.lst true 114 (bs.map bodyC))],.agg [.t (.lst true 9 (Zai l)),.t (.int .i64 tick),.t (.int .i64 seed),.t (ints 3 sc),.t (.lst true 114 (bs.map bodyC))]] (.t (.bool true)):=by
 have g1:=Zlv l
 have g2:=ZdK sc
 have g3:=Zls bs
 refine AC.go Tryz.func33 Tryz.ntmps33 fun B W hr=>?_
 repeat' (first|refine pa ?_|(refine pb ?_ ?_<;>intro hg)|(refine Zab (n:=20) ?_;(first|refine Zaa g1 ?_|refine Zaa g2 ?_|refine Zaa g3 ?_))|refine po ?_|fail)
 all_goals refine pfin ?_
 all_goals exact .inl rfl
end Go.Proofs.YthfaongbpdnlnaaGreat
