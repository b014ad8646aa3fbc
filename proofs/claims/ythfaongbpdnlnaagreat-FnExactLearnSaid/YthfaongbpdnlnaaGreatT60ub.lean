/- What is proved: the contract on the size of a peer, the differences that it holds included.
   Conditions: none. -/
import Derived.Test.YthfaongbpdnlnaaGreatT57
namespace Go.Proofs.YthfaongbpdnlnaaGreat
set_option maxHeartbeats 4000000
set_option maxRecDepth 20000
set_option linter.unusedSimpArgs false
set_option linter.unusedVariables false
open Go.RowKit Ab
theorem ZkY {P:Program} {e:TypeId} {xs:List Sv} (h:RdT P (.lst true e (xs.map saveC))):xs.length≤9223372036854775807∧∀ k,k < xs.length→(xs.getD k default).2.length≤9223372036854775807:=by
 obtain ⟨h1,h2,h3⟩:=ZhS h
 refine ⟨by simpa using h1,fun k hk=>?_⟩
 have hu:∀ x ∈ xs.map saveC,x.length=2:=fun x hx=>by obtain ⟨p,_,rfl⟩:=List.mem_map.1 hx;rfl
 have h4:=Zb0 hu (i:=k) (j:=1) (by simpa using hk) (by omega)
 rw [getD_map hk] at h4
 exact ZeK (h3 _ _ h4)
def szSv (xs:List Sv) (l:Int):Int:=if l - (xs.length:Int) < 0 then -1 else Zdr (xs.map (·.2)) (l - xs.length)
theorem Zqc {xs:List Sv} {l:Int} (h:¬ szSv xs l < 0):(xs.length:Int)≤l∧szSv xs l≤l - xs.length:=by
 unfold szSv at h ⊢
 split at h
 ·omega
 ·rename_i hl
  rw [if_neg hl]
  rcases ZjN (xs:=xs.map (·.2)) (l:=l - xs.length) with h1|h1<;>omega
theorem Znu (a:Int) (s:List UInt8) (l:Int) (hl:0≤l):AC Tryz.prog 176 [.agg [.t (.int .i64 a),.t (.str s)],.t (.int .i64 l)] (.t (.int .i64 (if l - s.length < 0 then -1 else l - s.length))):=by
 refine AC.go Tryz.func176 Tryz.ntmps176 fun B W hr=>?_
 obtain ⟨us,hus⟩:=hr
 have h1:=ZeK (ZjG hus (i:=0) (k:=1) rfl rfl)
 have h2:=ZcJ (ZaR hus (i:=1) rfl)
 clear hus
 repeat' (first|refine pa ?_|(refine pb ?_ ?_<;>intro hg)|refine po ?_|fail)
 all_goals refine pfin ?_
 ·exact .inl (congrArg (T.int .i64) (by rw [if_pos (by omega)]))
 ·exact .inl (congrArg (T.int .i64) (by rw [if_neg (by omega)]))
theorem ZlA (xs:List Sv) (l:Int) (hl:0≤l):AC Tryz.prog 92 [.t (.lst true 179 (xs.map saveC)),.t (.int .i64 l)] (.t (.int .i64 (szSv xs l))):=by
 refine AC.go Tryz.func92 Tryz.ntmps92 fun B W hr=>?_
 obtain ⟨us,hus⟩:=hr
 obtain ⟨h1,h2⟩:=ZkY (ZaR hus (i:=0) rfl)
 have h3:=ZcJ (ZaR hus (i:=1) rfl)
 clear hus
 repeat' (first|refine pa ?_|(refine pb ?_ ?_<;>intro hg)|refine po ?_|fail)
 ·refine pfin ?_
  exact .inl (congrArg (T.int .i64) (by rw [szSv,if_pos (by omega)]))
 ·have hs:szSv xs l=Zdr (xs.map (·.2)) (l - xs.length):=by rw [szSv,if_neg (by omega)]
  rw [hs]
  refine aW.loopF rfl (fun q:Nat×Int=>[(5,.t (.int .i64 q.1)),(1,.t (.int .i64 q.2))]) [(0,_)] (fun q=>[]) [] (fun q=>q.1≤xs.length∧0≤q.2∧q.2≤l∧Zdr ((xs.drop q.1).map (·.2)) q.2=Zdr (xs.map (·.2)) (l - xs.length)) (fun q=>xs.length - q.1) (0,_) ⟨Nat.zero_le _,by show 0≤l - (xs.length:Int);omega,by show l - (xs.length:Int)≤l;omega,rfl⟩ (by (exact plei)) ?_
  rintro ⟨k,v⟩ hI
  obtain ⟨hk,hl0,hl1,hgo⟩:k≤xs.length∧0≤v∧v≤l∧Zdr ((xs.drop k).map (·.2)) v=Zdr (xs.map (·.2)) (l - xs.length):=hI
  refine pln ?_
  by_cases hkn:k < xs.length
  ·have hsf:=Znu (xs.getD k default).1 (xs.getD k default).2 v hl0
   rw [drop_at hkn,List.map_cons] at hgo
   have h4:=h2 k hkn
   by_cases hc:v - (xs.getD k default).2.length < 0
   ·rw [if_pos hc] at hsf
    repeat' (first|refine pa ?_|(refine pb ?_ ?_<;>intro hg)|(refine Zab (n:=20) ?_;(first|refine Zaa hsf ?_))|refine po ?_|fail)
    refine pfin ?_
    exact .inl (congrArg (T.int .i64) (by rw [← hgo,Zdr,if_pos hc]))
   ·rw [if_neg hc] at hsf
    repeat' (first|refine pa ?_|(refine pb ?_ ?_<;>intro hg)|(refine Zab (n:=20) ?_;(first|refine Zaa hsf ?_))|refine po ?_|fail)
    exact ⟨(k + 1,v - (xs.getD k default).2.length),⟨hkn,by show 0≤v - _;omega,by show v - _≤l;omega,by rw [Zdr,if_neg hc] at hgo;exact hgo⟩,by show xs.length - (k + 1) < xs.length - k;omega,by (exact ple)⟩
  ·repeat' (first|refine pa ?_|(refine pb ?_ ?_<;>intro hg)|refine po ?_|fail)
   refine pfin ?_
   have:xs.drop k=[]:=List.drop_of_length_le (by omega)
   rw [this] at hgo
   exact .inl (congrArg (T.int .i64) hgo)
theorem Znw (a:Int) (s:List UInt8):AC Tryz.prog 182 [.agg [.t (.int .i64 a),.t (.str s)]] (.agg [.t (.int .i64 a),.t (.str s)]):=by
 refine AC.go Tryz.func182 Tryz.ntmps182 fun B W hr=>?_
 repeat' (first|refine pa ?_|(refine pb ?_ ?_<;>intro hg)|refine po ?_|fail)
 all_goals refine pfin ?_
 all_goals (exact ⟨.inl rfl,.inl rfl,trivial⟩)
theorem ZlG (xs:List Sv) (hx:xs.length≤1048576):AC Tryz.prog 101 [.t (.lst true 179 (xs.map saveC))] (.fr true 100 (xs.map saveC)):=by
 refine AC.go Tryz.func101 Tryz.ntmps101 fun B W hr=>?_
 repeat' (first|refine pa ?_|(refine pb ?_ ?_<;>intro hg)|refine po ?_|fail)
 refine aW.loopF rfl (fun q:Nat×List (List T)=>[(4,.t (.int .i64 q.1)),(3,.hnd 7 1)]) [(0,_)] (fun q=>[(7,1,.row true true 100 q.2)]) [] (fun q=>Za8 saveC 2 xs q.2 q.1) (fun q=>xs.length - q.1) (0,_) (Za8.init (z:=[.int .i64 0,.str .nil]) rfl) (by (exact plei)) ?_
 rintro ⟨k,els⟩ hI
 have hI:Za8 saveC 2 xs els k:=hI
 obtain ⟨hI1,hI2⟩:k≤xs.length∧els.length=xs.length:=⟨hI.le,hI.len⟩
 refine pln ?_
 repeat' (first|refine pa ?_|(refine pb ?_ ?_<;>intro hg)|(refine Zab (n:=20) ?_;(first|refine Zaa (Znw _ _) ?_))|refine po ?_|fail)
 ·exact ⟨(k + 1,_),hI.step (by omega) rfl rfl,by show xs.length - (k + 1) < xs.length - k;omega,by (exact ple)⟩
 ·have hk:k=xs.length:=by omega
  subst hk
  have he:=hI.all
  subst he
  refine pfin ?_
  exact rfl
theorem Ziz (a:Int) (s:List UInt8):AC Tryz.prog 190 [.agg [.t (.int .i64 a),.t (.str s)],.agg [.t (.int .i64 a),.t (.str s)]] (.t (.bool true)):=by
 refine AC.go Tryz.func190 Tryz.ntmps190 fun B W hr=>?_
 repeat' (first|refine pa ?_|(refine pb ?_ ?_<;>intro hg)|refine po ?_|fail)
 all_goals refine pfin ?_
 all_goals exact .inl rfl
theorem Zlw (xs:List Sv):AC Tryz.prog 111 [.t (.lst true 100 (xs.map saveC)),.t (.lst true 100 (xs.map saveC))] (.t (.bool true)):=by
 refine AC.go Tryz.func111 Tryz.ntmps111 fun B W hr=>?_
 obtain ⟨us,hus⟩:=hr
 obtain ⟨hl,_⟩:=ZkY (ZaR hus (i:=0) rfl)
 clear hus
 repeat' (first|refine pa ?_|(refine pb ?_ ?_<;>intro hg)|refine po ?_|((apply pdq 10;(focus exact pdp);(focus ((apply pct 10 511 1;(focus (intro hd1;(refine pt0_ 0 ?_<;>refine pt0_ 1 ?_<;>refine Za7 2 ?_<;>refine pt7_ 3 ?_<;>refine pt0_ 4 ?_<;>refine pt0_ 5 ?_<;>refine Za7 6 ?_<;>refine pt7_ 7 ?_<;>(refine pq1 8 ?_;(focus ((refine pop ?_;(refine Zab (n:=20) ?_;(first|fail)))<;>(exact ptm hd1)))))));(case main=>(refine Zf9 9 ?_<;>(refine ZaI ?_;exact ZaJ))))))))|fail)
 refine aW.loopF rfl (fun q:Nat=>[(5,.t (.int .i64 q))]) [(1,_),(0,_)] (fun q=>[]) [] (fun q=>q≤xs.length) (fun q=>xs.length - q) 0 (Nat.zero_le _) (by (exact plei)) ?_
 intro k hk
 refine pln ?_
 repeat' (first|refine pa ?_|(refine pb ?_ ?_<;>intro hg)|(refine Zab (n:=20) ?_;(first|refine Zaa (Ziz _ _) ?_))|refine po ?_|((apply pdq 10;(focus exact pdp);(focus ((apply pct 10 511 1;(focus (intro hd1;(refine pt0_ 0 ?_<;>refine pt0_ 1 ?_<;>refine Za7 2 ?_<;>refine pt7_ 3 ?_<;>refine pt0_ 4 ?_<;>refine pt0_ 5 ?_<;>refine Za7 6 ?_<;>refine pt7_ 7 ?_<;>(refine pq1 8 ?_;(focus ((refine pop ?_;(refine Zab (n:=20) ?_;(first|refine Zaa (Ziz _ _) ?_)))<;>(exact ptm hd1)))))));(case main=>(refine Zf9 9 ?_<;>(refine ZaI ?_;exact ZaJ))))))))|fail)
 ·exact ⟨k + 1,by omega,by omega,by (exact ple)⟩
 ·exact pfr
theorem ZlD (t p a:Int):AC Tryz.prog 103 [.agg [.t (.int .i64 t),.t (.int .i64 p),.t (.int .i64 a)]] (.agg [.t (.int .i64 t),.t (.int .i64 p),.t (.int .i64 a)]):=by
 refine AC.go Tryz.func103 Tryz.ntmps103 fun B W hr=>?_
 repeat' (first|refine pa ?_|(refine pb ?_ ?_<;>intro hg)|refine po ?_|fail)
 all_goals refine pfin ?_
 (exact pgiv)
theorem Zlt (t p a:Int):AC Tryz.prog 112 [.agg [.t (.int .i64 t),.t (.int .i64 p),.t (.int .i64 a)],.agg [.t (.int .i64 t),.t (.int .i64 p),.t (.int .i64 a)]] (.t (.bool true)):=by
 refine AC.go Tryz.func112 Tryz.ntmps112 fun B W hr=>?_
 repeat' (first|refine pa ?_|(refine pb ?_ ?_<;>intro hg)|refine po ?_|fail)
 all_goals refine pfin ?_
 all_goals exact .inl rfl
def szW (l:Lv) (sc:List Int) (bs:List Bd) (n:Int):Int:=if neg1 (szS l n) < 0 then -1 else if szI sc (neg1 (szS l n)) < 0 then -1 else if szB bs (szI sc (neg1 (szS l n))) < 0 then -1 else szB bs (szI sc (neg1 (szS l n)))
theorem Zhq (l:Lv) (tick seed:Int) (sc:List Int) (bs:List Bd) (n:Int) (hn:0≤n):AC Tryz.prog 90 [.agg [.t (.lst true 9 (Zai l)),.t (.int .i64 tick),.t (.int .i64 seed),.t (ints 3 sc),.t (.lst true 204 (bs.map bodyC))],.t (.int .i64 n)] (.t (.int .i64 (szW l sc bs n))):=by
 have h1:=Zlz l n hn
 unfold szW
 by_cases c1:neg1 (szS l n) < 0
 ·rw [if_pos c1]
  refine AC.go Tryz.func90 Tryz.ntmps90 fun B W hr=>?_
  repeat' (first|refine pa ?_|(refine pb ?_ ?_<;>intro hg)|(refine Zab (n:=20) ?_;(first|refine Zaa h1 ?_))|refine po ?_|fail)
  exact pfr
 ·rw [if_neg c1]
  have h2:=ZeW sc (neg1 (szS l n)) (by omega)
  by_cases c2:szI sc (neg1 (szS l n)) < 0
  ·rw [if_pos c2]
   refine AC.go Tryz.func90 Tryz.ntmps90 fun B W hr=>?_
   repeat' (first|refine pa ?_|(refine pb ?_ ?_<;>intro hg)|(refine Zab (n:=20) ?_;(first|refine Zaa h1 ?_|refine Zaa h2 ?_))|refine po ?_|fail)
   exact pfr
  ·rw [if_neg c2]
   have h3:=Zlx bs (szI sc (neg1 (szS l n))) (by omega)
   by_cases c3:szB bs (szI sc (neg1 (szS l n))) < 0
   ·rw [if_pos c3]
    refine AC.go Tryz.func90 Tryz.ntmps90 fun B W hr=>?_
    repeat' (first|refine pa ?_|(refine pb ?_ ?_<;>intro hg)|(refine Zab (n:=20) ?_;(first|refine Zaa h1 ?_|refine Zaa h2 ?_|refine Zaa h3 ?_))|refine po ?_|fail)
    exact pfr
   ·rw [if_neg c3]
    refine AC.go Tryz.func90 Tryz.ntmps90 fun B W hr=>?_
    repeat' (first|refine pa ?_|(refine pb ?_ ?_<;>intro hg)|(refine Zab (n:=20) ?_;(first|refine Zaa h1 ?_|refine Zaa h2 ?_|refine Zaa h3 ?_))|refine po ?_|fail)
    exact pfr
theorem Zpg {l:Lv} {sc:List Int} {bs:List Bd} {n:Int} (h:¬ szW l sc bs n < 0):(l.length:Int)≤n∧(sc.length:Int)≤n∧(bs.length:Int)≤n∧0≤szW l sc bs n∧szW l sc bs n≤n:=by
 unfold szW at h ⊢
 split at h
 ·omega
 ·rename_i c1
  rw [if_neg c1]
  split at h
  ·omega
  ·rename_i c2
   rw [if_neg c2]
   split at h
   ·omega
   ·rename_i c3
    rw [if_neg c3]
    have e1:neg1 (szS l n)=szS l n:=by
     by_cases h5:szS l n < 0
     ·exact absurd (show neg1 (szS l n) < 0 by rw [neg1,if_pos h5];omega) c1
     ·exact if_neg h5
    rw [e1] at c1 c2 c3 ⊢
    have h1:=szS_len c1
    have h2:¬ szS l n - (sc.length:Int) < 0∧szI sc (szS l n)=szS l n - sc.length:=by
     unfold szI at c2 ⊢
     split at c2
     ·omega
     ·rename_i h;exact ⟨h,if_neg h⟩
    have h3:¬ szI sc (szS l n) - (bs.length:Int) < 0∧szB bs (szI sc (szS l n))=szI sc (szS l n) - bs.length:=by
     unfold szB at c3 ⊢
     split at c3
     ·omega
     ·rename_i h;exact ⟨h,if_neg h⟩
    omega
theorem ZeV (p:Pr):AC Tryz.prog 34 [.agg [.t (.int .i64 p.me),.t (.int .i64 p.delay),.t (.int .i64 p.ahead),.t (.int .i64 p.seed),.t (.lst false 46 (p.tracks.map trackC)),.t (.lst true 9 (Zai p.base.level)),.t (.int .i64 p.base.tick),.t (.int .i64 p.base.seed),.t (ints 3 p.base.scores),.t (.lst true 114 (p.base.bodies.map bodyC)),.t (.lst true 9 (Zai p.now.level)),.t (.int .i64 p.now.tick),.t (.int .i64 p.now.seed),.t (ints 3 p.now.scores),.t (.lst true 114 (p.now.bodies.map bodyC)),.t (.lst false 27 (p.used.map trackC)),.t (.lst true 100 (p.saves.map saveC)),.t (ints 3 p.sums),.t (.int .i64 p.ft),.t (.int .i64 p.fp),.t (.int .i64 p.fa),.t (.int .i64 p.rolls),.t (.int .i64 p.again)],.agg [.t (.int .i64 p.me),.t (.int .i64 p.delay),.t (.int .i64 p.ahead),.t (.int .i64 p.seed),.t (.lst false 46 (p.tracks.map trackC)),.t (.lst true 9 (Zai p.base.level)),.t (.int .i64 p.base.tick),.t (.int .i64 p.base.seed),.t (ints 3 p.base.scores),.t (.lst true 114 (p.base.bodies.map bodyC)),.t (.lst true 9 (Zai p.now.level)),.t (.int .i64 p.now.tick),.t (.int .i64 p.now.seed),.t (ints 3 p.now.scores),.t (.lst true 114 (p.now.bodies.map bodyC)),.t (.lst false 27 (p.used.map trackC)),.t (.lst true 100 (p.saves.map saveC)),.t (ints 3 p.sums),.t (.int .i64 p.ft),.t (.int .i64 p.fp),.t (.int .i64 p.fa),.t (.int .i64 p.rolls),.t (.int .i64 p.again)]] (.t (.bool true)):=by
 have g1:=Zj0 p.tracks
 have g2:=Zd1 p.base.level p.base.tick p.base.seed p.base.scores p.base.bodies
 have g3:=Zd1 p.now.level p.now.tick p.now.seed p.now.scores p.now.bodies
 have g4:=Zlu p.used
 have g5:=Zlw p.saves
 have g6:=ZdK p.sums
 have g7:=Zlt p.ft p.fp p.fa
 refine AC.go Tryz.func34 Tryz.ntmps34 fun B W hr=>?_
 repeat' (first|refine pa ?_|(refine pb ?_ ?_<;>intro hg)|(refine Zab (n:=20) ?_;(first|refine Zaa g1 ?_|refine Zaa g2 ?_|refine Zaa g3 ?_|refine Zaa g4 ?_|refine Zaa g5 ?_|refine Zaa g6 ?_|refine Zaa g7 ?_))|refine po ?_|fail)
 all_goals refine pfin ?_
 all_goals exact .inl rfl
theorem Zgs (p:Pr) (h:Zeq p):AC Tryz.prog 31 [.agg [.t (.int .i64 p.me),.t (.int .i64 p.delay),.t (.int .i64 p.ahead),.t (.int .i64 p.seed),.t (.lst false 175 (p.tracks.map trackC)),.t (.lst true 9 (Zai p.base.level)),.t (.int .i64 p.base.tick),.t (.int .i64 p.base.seed),.t (ints 3 p.base.scores),.t (.lst true 204 (p.base.bodies.map bodyC)),.t (.lst true 9 (Zai p.now.level)),.t (.int .i64 p.now.tick),.t (.int .i64 p.now.seed),.t (ints 3 p.now.scores),.t (.lst true 204 (p.now.bodies.map bodyC)),.t (.lst false 27 (p.used.map trackC)),.t (.lst true 179 (p.saves.map saveC)),.t (ints 3 p.sums),.t (.int .i64 p.ft),.t (.int .i64 p.fp),.t (.int .i64 p.fa),.t (.int .i64 p.rolls),.t (.int .i64 p.again)]] (.agg [.t (.int .i64 p.me),.t (.int .i64 p.delay),.t (.int .i64 p.ahead),.t (.int .i64 p.seed),.fr false 46 (p.tracks.map trackC),.fr true 9 (Zai p.base.level),.t (.int .i64 p.base.tick),.t (.int .i64 p.base.seed),.fr true 3 (Zak p.base.scores),.fr true 114 (p.base.bodies.map bodyC),.fr true 9 (Zai p.now.level),.t (.int .i64 p.now.tick),.t (.int .i64 p.now.seed),.fr true 3 (Zak p.now.scores),.fr true 114 (p.now.bodies.map bodyC),.fr false 27 (p.used.map trackC),.fr true 100 (p.saves.map saveC),.fr true 3 (Zak p.sums),.t (.int .i64 p.ft),.t (.int .i64 p.fp),.t (.int .i64 p.fa),.t (.int .i64 p.rolls),.t (.int .i64 p.again)]):=by
 have g1:=Zj3 p.tracks h.tracks.1 h.tracks.2
 have g2:=Zhr p.base.level p.base.tick p.base.seed p.base.scores p.base.bodies h.base.1 h.base.2.1 h.base.2.2
 have g3:=Zhr p.now.level p.now.tick p.now.seed p.now.scores p.now.bodies h.now.1 h.now.2.1 h.now.2.2
 have g4:=ZlE p.used h.used.1 h.used.2
 have g5:=ZlG p.saves h.saves
 have g6:=ZeX p.sums h.sums
 have g7:=ZlD p.ft p.fp p.fa
 refine AC.go Tryz.func31 Tryz.ntmps31 fun B W hr=>?_
 repeat' (first|refine pa ?_|(refine pb ?_ ?_<;>intro hg)|(refine Zab (n:=20) ?_;(first|refine pz3 g1 ?_|refine pz3 g2 ?_|refine pz3 g3 ?_|refine pz3 g4 ?_|refine pz3 g5 ?_|refine pz3 g6 ?_|refine pz3 g7 ?_))|refine po ?_|fail)
 all_goals refine pfin ?_
 (exact pgiv)
def trackT:TY:=.struct (.last (.slice 3 (.int .i64)))
def levelT:TY:=.struct (.last (.slice 9 .str))
def ZpD:TY:=.struct (.pair (.int .i64) (.pair (.int .i64) (.pair (.int .i64) (.pair (.int .i64) (.pair (.int .i64) (.pair (.int .i64) (.pair (.int .i64) (.pair (.int .i64) (.pair (.int .i64) .unit)))))))))
def worldT:TY:=.struct (.pair levelT (.pair (.int .i64) (.pair (.int .i64) (.pair (.slice 3 (.int .i64)) (.last (.slice 204 ZpD))))))
def Zp9:TY:=.struct (.pair (.int .i64) (.pair .str .unit))
def Zf7:TY:=.struct (.pair (.int .i64) (.pair (.int .i64) (.pair (.int .i64) (.pair (.int .i64) (.pair (.slice 175 trackT) (.pair worldT (.pair worldT (.pair (.slice 27 (.slice 3 (.int .i64))) (.pair (.slice 179 Zp9) (.pair (.slice 3 (.int .i64)) (.pair faultT (.pair (.int .i64) (.pair (.int .i64) .unit)))))))))))))
def toLv (l:List ByteArray):Lv:=l.map fun s=>s.data.toList
def toBd (b:ZpD.V):Bd:=⟨b.1,b.2.1,b.2.2.1,b.2.2.2.1,b.2.2.2.2.1,b.2.2.2.2.2.1,b.2.2.2.2.2.2.1,b.2.2.2.2.2.2.2.1,b.2.2.2.2.2.2.2.2.1⟩
def toSv (s:Zp9.V):Sv:=(s.1,s.2.1.data.toList)
theorem lv_tr (l:List ByteArray):List.map (TY.tr .str) l=Zai (toLv l):=by
 unfold Zai toLv
 rw [List.map_map]
 rfl
theorem bd_tr (bs:List ZpD.V):List.map ZpD.tr bs=(bs.map toBd).map bodyC:=by
 rw [List.map_map]
 rfl
theorem sv_tr (xs:List Zp9.V):List.map Zp9.tr xs=(xs.map toSv).map saveC:=by
 rw [List.map_map]
 rfl
def toWd (w:worldT.V):Wd:=⟨toLv w.1,w.2.1,w.2.2.1,w.2.2.2.1,w.2.2.2.2.map toBd⟩
theorem wd_tr (w:worldT.V):worldT.tr w=[.lst true 9 (Zai (toWd w).level),.int .i64 (toWd w).tick,.int .i64 (toWd w).seed,ints 3 (toWd w).scores,.lst true 204 ((toWd w).bodies.map bodyC)]:=by
 obtain ⟨l,t,s,sc,bs⟩:=w
 exact congr (congrArg (fun a b=>[T.lst true 9 a,.int .i64 t,.int .i64 s,ints 3 sc,.lst true 204 b]) (lv_tr l)) (bd_tr bs)
theorem Zmb (x:Zf7.V):∃ p:Pr,TY.arg Zf7 x=.agg [.t (.int .i64 p.me),.t (.int .i64 p.delay),.t (.int .i64 p.ahead),.t (.int .i64 p.seed),.t (.lst false 175 (p.tracks.map trackC)),.t (.lst true 9 (Zai p.base.level)),.t (.int .i64 p.base.tick),.t (.int .i64 p.base.seed),.t (ints 3 p.base.scores),.t (.lst true 204 (p.base.bodies.map bodyC)),.t (.lst true 9 (Zai p.now.level)),.t (.int .i64 p.now.tick),.t (.int .i64 p.now.seed),.t (ints 3 p.now.scores),.t (.lst true 204 (p.now.bodies.map bodyC)),.t (.lst false 27 (p.used.map trackC)),.t (.lst true 179 (p.saves.map saveC)),.t (ints 3 p.sums),.t (.int .i64 p.ft),.t (.int .i64 p.fp),.t (.int .i64 p.fa),.t (.int .i64 p.rolls),.t (.int .i64 p.again)]:=by
 obtain ⟨me,delay,ahead,seed,ts,wb,wn,us,sv,su,⟨ft,fp,fa,_⟩,rolls,again,_⟩:=x
 refine ⟨⟨me,delay,ahead,seed,ts,toWd wb,toWd wn,us,sv.map toSv,su,ft,fp,fa,rolls,again⟩,?_⟩
 exact congr (congr (congrArg (fun a b c=>V.agg (([T.int .i64 me,.int .i64 delay,.int .i64 ahead,.int .i64 seed,.lst false 175 (ts.map trackC)]++(a++(b++[T.lst false 27 (us.map trackC),.lst true 179 c,ints 3 su,.int .i64 ft,.int .i64 fp,.int .i64 fa,.int .i64 rolls,.int .i64 again]))).map V.t)) (wd_tr wb)) (wd_tr wn)) (sv_tr sv)
theorem ZiW:∀ {xs:List (List UInt8)} {l:Int},¬ Zdr xs l < 0→∀ x ∈ xs,(x.length:Int)≤l
 | [],_,_,x,hx=>by cases hx
 | f :: r,l,h,x,hx=>by
  unfold Zdr at h
  split at h
  ·omega
  ·rcases List.mem_cons.1 hx with rfl|hx
   ·omega
   ·have:=ZiW h x hx
    omega
theorem Zpe {xs:List Sv} {l:Int} (h:¬ szSv xs l < 0):∀ s ∈ xs,(s.2.length:Int)≤l:=fun s hs=>by
 unfold szSv at h
 split at h
 ·omega
 ·have:=ZiW h s.2 (List.mem_map_of_mem hs)
  omega
end Go.Proofs.YthfaongbpdnlnaaGreat
