/- What is proved: contracts on the confirmed world that is played again, program and reference alike.
   Conditions: the peer's lists can be walked. -/
import Derived.Test.YthfaongbpdnlnaaGreatT60ub
import Derived.Test.YthfaongbpdnlnaaGreatT98
import Derived.Test.YthfaongbpdnlnaaGreatT96
namespace Go.Proofs.YthfaongbpdnlnaaGreat
set_option maxHeartbeats 4000000
set_option maxRecDepth 20000
set_option linter.unusedSimpArgs false
set_option linter.unusedVariables false
open Go.RowKit Ab
theorem Zfr (p:Pr):∃ r:Int,AC Tryz.prog 29 [.agg [.t (.int .i64 p.me),.t (.int .i64 p.delay),.t (.int .i64 p.ahead),.t (.int .i64 p.seed),.t (.lst false 175 (p.tracks.map trackC)),.t (.lst true 9 (Zai p.base.level)),.t (.int .i64 p.base.tick),.t (.int .i64 p.base.seed),.t (ints 3 p.base.scores),.t (.lst true 204 (p.base.bodies.map bodyC)),.t (.lst true 9 (Zai p.now.level)),.t (.int .i64 p.now.tick),.t (.int .i64 p.now.seed),.t (ints 3 p.now.scores),.t (.lst true 204 (p.now.bodies.map bodyC)),.t (.lst false 27 (p.used.map trackC)),.t (.lst true 179 (p.saves.map saveC)),.t (ints 3 p.sums),.t (.int .i64 p.ft),.t (.int .i64 p.fp),.t (.int .i64 p.fa),.t (.int .i64 p.rolls),.t (.int .i64 p.again)],.t (.int .i64 1048576)] (.t (.int .i64 r))∧(¬ r < 0→Zeq p∧Zc0 p):=by
 have h1:=Zj2 p.tracks 1048576 (by omega)
 by_cases c1:ZfF p.tracks 1048576 < 0
 ·refine ⟨-1,?_,fun h=>absurd (show (-1:Int) < 0 by omega) h⟩
  refine AC.go Tryz.func29 Tryz.ntmps29 fun B W hr=>?_
  repeat' (first|refine pa ?_|(refine pb ?_ ?_<;>intro hg)|(refine pz9 ?_;(first|refine Zaa h1 ?_))|refine po ?_|fail)
  exact pfr
 have e1:=Znd c1
 have t1:p.tracks.length≤1048576∧∀ k,k < p.tracks.length→(p.tracks.getD k default).length≤1048576:=⟨by omega,fun k hk=>by have:=ZoL hk;omega⟩
 have b1:ZfF p.tracks 1048576≤1048576:=by omega
 clear e1
 generalize ZfF p.tracks 1048576=n1 at h1 c1 b1
 have h2:=Zhq p.base.level p.base.tick p.base.seed p.base.scores p.base.bodies n1 (by omega)
 by_cases c2:szW p.base.level p.base.scores p.base.bodies n1 < 0
 ·refine ⟨-1,?_,fun h=>absurd (show (-1:Int) < 0 by omega) h⟩
  refine AC.go Tryz.func29 Tryz.ntmps29 fun B W hr=>?_
  repeat' (first|refine pa ?_|(refine pb ?_ ?_<;>intro hg)|(refine pz9 ?_;(first|refine Zaa h1 ?_|refine Zaa h2 ?_))|refine po ?_|fail)
  exact pfr
 have t2:=Zpg c2
 generalize szW p.base.level p.base.scores p.base.bodies n1=n2 at h2 c2 t2
 have h3:=Zhq p.now.level p.now.tick p.now.seed p.now.scores p.now.bodies n2 (by omega)
 by_cases c3:szW p.now.level p.now.scores p.now.bodies n2 < 0
 ·refine ⟨-1,?_,fun h=>absurd (show (-1:Int) < 0 by omega) h⟩
  refine AC.go Tryz.func29 Tryz.ntmps29 fun B W hr=>?_
  repeat' (first|refine pa ?_|(refine pb ?_ ?_<;>intro hg)|(refine pz9 ?_;(first|refine Zaa h1 ?_|refine Zaa h2 ?_|refine Zaa h3 ?_))|refine po ?_|fail)
  exact pfr
 have t3:=Zpg c3
 generalize szW p.now.level p.now.scores p.now.bodies n2=n3 at h3 c3 t3
 have h4:=Zly p.used n3 (by omega)
 by_cases c4:ZfF p.used n3 < 0
 ·refine ⟨-1,?_,fun h=>absurd (show (-1:Int) < 0 by omega) h⟩
  refine AC.go Tryz.func29 Tryz.ntmps29 fun B W hr=>?_
  repeat' (first|refine pa ?_|(refine pb ?_ ?_<;>intro hg)|(refine pz9 ?_;(first|refine Zaa h1 ?_|refine Zaa h2 ?_|refine Zaa h3 ?_|refine Zaa h4 ?_))|refine po ?_|fail)
  exact pfr
 have e4:=Znd c4
 have t4:p.used.length≤1048576∧∀ k,k < p.used.length→(p.used.getD k default).length≤1048576:=⟨by omega,fun k hk=>by have:=ZoL hk;omega⟩
 have b4:ZfF p.used n3≤1048576:=by omega
 clear e4
 generalize ZfF p.used n3=n4 at h4 c4 b4
 have h5:=ZlA p.saves n4 (by omega)
 by_cases c5:szSv p.saves n4 < 0
 ·refine ⟨-1,?_,fun h=>absurd (show (-1:Int) < 0 by omega) h⟩
  refine AC.go Tryz.func29 Tryz.ntmps29 fun B W hr=>?_
  repeat' (first|refine pa ?_|(refine pb ?_ ?_<;>intro hg)|(refine pz9 ?_;(first|refine Zaa h1 ?_|refine Zaa h2 ?_|refine Zaa h3 ?_|refine Zaa h4 ?_|refine Zaa h5 ?_))|refine po ?_|fail)
  exact pfr
 have t5:=Zqc c5
 have d5:=Zpe c5
 generalize szSv p.saves n4=n5 at h5 c5 t5
 have h6:=ZeW p.sums n5 (by omega)
 by_cases c6:szI p.sums n5 < 0
 ·refine ⟨-1,?_,fun h=>absurd (show (-1:Int) < 0 by omega) h⟩
  refine AC.go Tryz.func29 Tryz.ntmps29 fun B W hr=>?_
  repeat' (first|refine pa ?_|(refine pb ?_ ?_<;>intro hg)|(refine pz9 ?_;(first|refine Zaa h1 ?_|refine Zaa h2 ?_|refine Zaa h3 ?_|refine Zaa h4 ?_|refine Zaa h5 ?_|refine Zaa h6 ?_))|refine po ?_|fail)
  exact pfr
 have e6:=Zvk c6
 refine ⟨szI p.sums n5,?_,fun _=>⟨⟨t1,by omega,by omega,t4,by omega,by omega⟩,fun s hs=>by have:=d5 s hs;omega⟩⟩
 refine AC.go Tryz.func29 Tryz.ntmps29 fun B W hr=>?_
 repeat' (first|refine pa ?_|(refine pb ?_ ?_<;>intro hg)|(refine pz9 ?_;(first|refine Zaa h1 ?_|refine Zaa h2 ?_|refine Zaa h3 ?_|refine Zaa h4 ?_|refine Zaa h5 ?_|refine Zaa h6 ?_))|refine po ?_|fail)
 exact pfr
theorem ZiZ:ZcB.level.length≤1048576∧ZcB.scores.length≤1048576∧ZcB.bodies.length≤1048576:=⟨Nat.zero_le _,Nat.zero_le _,Nat.zero_le _⟩
theorem ZnR (p:Pr) (t:Int):((Zbn p t).getD ZcB).level.length≤1048576∧((Zbn p t).getD ZcB).scores.length≤1048576∧((Zbn p t).getD ZcB).bodies.length≤1048576:=by
 cases h:Zbn p t with
 | none=>exact ZiZ
 | some w=>exact Zee (Zgc h).2.1
theorem Zk0 (p:Pr) (t:Int):((Zbx p t).getD ZcB).level.length≤1048576∧((Zbx p t).getD ZcB).scores.length≤1048576∧((Zbx p t).getD ZcB).bodies.length≤1048576:=by
 unfold Zbx
 split
 ·rename_i h
  have hp:=Zbq.1 h.1
  have hk:=Zg5 (ts:=p.tracks)
  exact Zee (ZfB hp _ (by have:=h.2;omega))
 ·exact ZiZ
theorem ZrJ (p:Pr) (hp:Zeq p):Zeq (confirmV p):=by
 by_cases h:Zb9 p=true
 ·exact Zp3 (ZrO (Zbq.1 h)).1
 ·unfold confirmV
  rw [if_neg h]
  exact hp
theorem Zj7 (p:Pr) (t:Int) (hp:Zeq p) (hd:Zc0 p) (v:Wd) (hv:v=(Zbx p t).getD ZcB):AC Tryz.prog 41 [.agg [.t (.int .i64 p.me),.t (.int .i64 p.delay),.t (.int .i64 p.ahead),.t (.int .i64 p.seed),.t (.lst false 46 (p.tracks.map trackC)),.t (.lst true 9 (Zai p.base.level)),.t (.int .i64 p.base.tick),.t (.int .i64 p.base.seed),.t (ints 3 p.base.scores),.t (.lst true 114 (p.base.bodies.map bodyC)),.t (.lst true 9 (Zai p.now.level)),.t (.int .i64 p.now.tick),.t (.int .i64 p.now.seed),.t (ints 3 p.now.scores),.t (.lst true 114 (p.now.bodies.map bodyC)),.t (.lst false 27 (p.used.map trackC)),.t (.lst true 100 (p.saves.map saveC)),.t (ints 3 p.sums),.t (.int .i64 p.ft),.t (.int .i64 p.fp),.t (.int .i64 p.fa),.t (.int .i64 p.rolls),.t (.int .i64 p.again)],.t (.int .i64 t)] (.tup [.agg [.fr true 9 (Zai v.level),.t (.int .i64 v.tick),.t (.int .i64 v.seed),.fr true 3 (Zak v.scores),.fr true 114 (v.bodies.map bodyC)],.t (.bool (Zbx p t).isSome)]):=by
 have hpo:=Zgt p hp.tracks.1
 have hkt:=ZdD p.tracks
 have htl0:(p.tracks.map trackC).length=p.tracks.length:=List.length_map _
 have hinb:inR t 0 (Zbe p.tracks)=decide (0≤t∧t≤Zbe p.tracks):=by
  by_cases h:0≤t∧t≤Zbe p.tracks
  ·rw [decide_eq_true h];exact Zae.2 h
  ·rw [decide_eq_false h];exact Zb3 fun e=>h e
 by_cases hok:Zg8 p t
 case neg =>
  rw [show Zbx p t=none from if_neg hok] at hv ⊢
  dsimp only [Option.getD_none,Option.isSome_none] at hv ⊢
  subst hv
  by_cases h1:Zb9 p=true
  case neg =>
   rw [Bool.not_eq_true] at h1
   rw [h1] at hpo
   refine AC.go Tryz.func41 Tryz.ntmps41 fun B W hr=>?_
   repeat' (first|refine pa ?_|(refine pb ?_ ?_<;>intro hg)|(refine pz9 ?_;(first|refine Zaa hpo ?_))|refine po ?_|fail)
   exact pfg
  rw [h1] at hpo
  by_cases h2:0≤t
  case neg =>
   rw [decide_eq_false fun e=>h2 e.1] at hinb
   refine AC.go Tryz.func41 Tryz.ntmps41 fun B W hr=>?_
   repeat' (first|refine pa ?_|(refine pb ?_ ?_<;>intro hg)|(refine pz9 ?_;(first|refine Zaa hpo ?_|refine Zaa hkt ?_|refine Zaa ((Zah _ _ _)) ?_))|refine po ?_|fail)
   exact pfg
  have h3:¬ t≤Zbe p.tracks:=fun h3=>hok ⟨h1,h2,h3⟩
  rw [decide_eq_false fun e=>h3 e.2] at hinb
  refine AC.go Tryz.func41 Tryz.ntmps41 fun B W hr=>?_
  repeat' (first|refine pa ?_|(refine pb ?_ ?_<;>intro hg)|(refine pz9 ?_;(first|refine Zaa hpo ?_|refine Zaa hkt ?_|refine Zaa ((Zah _ _ _)) ?_))|refine po ?_|fail)
  exact pfg
 have hok2:=hok
 obtain ⟨h1,h2,h3⟩:=hok2
 rw [decide_eq_true ⟨h2,h3⟩] at hinb
 rw [h1] at hpo
 have hpp:=Zbq.1 h1
 obtain ⟨n,rfl⟩:=Int.eq_ofNat_of_zero_le h2
 have hkl:=Zg5 (ts:=p.tracks)
 have hnw:=Zj4 p.base.level p.tracks.length p.seed hp.base.1 _ rfl
 rw [decide_eq_true (Zg7 hpp)] at hnw
 have hpart:=ZfB hpp
 have hrr:=ZhW hpp h2 h3
 rw [Int.toNat_natCast] at hrr
 rw [show Zbx p n=some (runF p.ft p.fp p.fa (ZeI p.base.level p.tracks.length p.seed) (Zbr p.tracks 0 n)) from (if_pos hok).trans (by rw [Int.toNat_natCast])] at hv ⊢
 dsimp only [Option.getD_some,Option.isSome_some] at hv ⊢
 generalize ZeI p.base.level p.tracks.length p.seed=w0 at hnw hpart hv
 have hrs:∀ k,k < n→(Zbr p.tracks 0 n).getD k default=(rowV p.tracks k).1:=fun k hk=>by rw [ZgF hk,Int.zero_add]
 have hnl:((Zbr p.tracks 0 n).map trackC).length=n:=by rw [List.length_map,Zdk]
 have hnl2:(Zbr p.tracks 0 n).length=n:=Zdk _ _ _
 skip
 skip
 refine AC.go Tryz.func41 Tryz.ntmps41 fun B W hr=>?_
 repeat' (first|refine pa ?_|(refine pb ?_ ?_<;>intro hg)|(refine pz9 ?_;(first|refine Zaa hpo ?_|refine Zaa hkt ?_|refine Zaa ((Zah _ _ _)) ?_|refine Zaa ((Zah _ _ _)) ?_|refine pz3 hnw ?_))|refine po ?_|fail)
 refine aW.ghost (Zco.renameC (b:=6) (c:=0) (o:=32000) (j:=51000) (ej:=1) rfl rfl rfl rfl rfl rfl rfl rfl) ?_
 refine aW.ghost (Zco.renameC (b:=6) (c:=3) (o:=32003) (j:=51003) (ej:=1) rfl rfl rfl rfl rfl rfl rfl rfl) ?_
 refine aW.ghost (Zco.renameC (b:=6) (c:=4) (o:=32004) (j:=51004) (ej:=1) rfl rfl rfl rfl rfl rfl rfl rfl) ?_
 dsimp only [List.set]
 refine aW.loopF rfl (fun q:Nat×Wd×Nat=>[(8,.t (.int .i64 q.1))]) [(6,_),(4,_),(2,_),(1,_)] (fun q=>[(6,1,.box 30 [.hnd 51000 q.2.2,.t (.int .i64 q.2.1.tick),.t (.int .i64 q.2.1.seed),.hnd 51003 q.2.2,.hnd 51004 q.2.2]),(51000,q.2.2,.row true true 9 (Zai q.2.1.level)),(51003,q.2.2,.row true true 3 (Zak q.2.1.scores)),(51004,q.2.2,.row true true 114 (q.2.1.bodies.map bodyC))]) [(2,_,_),(4,_,_)] (fun q=>q.1≤n∧q.2.1=runF p.ft p.fp p.fa w0 (Zbr p.tracks 0 q.1)) (fun q=>n - q.1) (0,w0,1) ⟨Nat.zero_le _,rfl⟩ (by (exact plei)) ?_
 rintro ⟨k,w,ep⟩ hI
 obtain ⟨hk,hw⟩:k≤n∧w=runF p.ft p.fp p.fa w0 (Zbr p.tracks 0 k):=hI
 have hwp:ZaV w:=by rw [hw];exact hpart k (by omega)
 obtain ⟨l1,l2,l3⟩:=Zee hwp
 refine pln ?_
 by_cases hkn:k < n
 ·have hrk:=hrs k hkn
  have hra:=Zn8 p.tracks (k:Int)
  rw [← hrk] at hra
  have hfs:=Zio w ((Zbr p.tracks 0 n).getD k default) p.ft p.fp p.fa l1 l2 l3 _ rfl
  have hnx:ZbA (ZbY w ((Zbr p.tracks 0 n).getD k default)) w p.ft p.fp p.fa=runF p.ft p.fp p.fa w0 (Zbr p.tracks 0 (k + 1)):=by rw [Zk3,← hw,hrk,Int.zero_add]
  generalize ZbA (ZbY w ((Zbr p.tracks 0 n).getD k default)) w p.ft p.fp p.fa=w2 at hfs hnx
  clear hw hwp hpart hrs hrk
  repeat' (first|refine pa ?_|(refine pb ?_ ?_<;>intro hg)|(refine pz9 ?_;(first|refine Zc5 hra ?_|refine pz3 hfs ?_))|refine po ?_|fail)
  exact ⟨(k + 1,w2,ep + 1),⟨hkn,hnx⟩,by show n - (k + 1) < n - k;omega,by (exact ple)⟩
 ·obtain rfl:k=n:=by omega
  rw [← hw] at hv
  subst hv
  repeat' (first|refine pa ?_|(refine pb ?_ ?_<;>intro hg)|refine po ?_|fail)
  exact pfg
end Go.Proofs.YthfaongbpdnlnaaGreat
