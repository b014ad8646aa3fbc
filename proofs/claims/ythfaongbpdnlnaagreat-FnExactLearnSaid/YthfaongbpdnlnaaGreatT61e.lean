/- What is proved: contracts on the sizes of a peer and of a packet, the statement's own, with what is left.
   Conditions: none. -/
import Derived.Test.YthfaongbpdnlnaaGreatT60ub
import Derived.Test.YthfaongbpdnlnaaGreatT103
namespace Go.Proofs.YthfaongbpdnlnaaGreat
set_option maxHeartbeats 4000000
set_option maxRecDepth 20000
set_option linter.unusedSimpArgs false
set_option linter.unusedVariables false
open Go.RowKit Ab
theorem Zvf (fr tk fs stk sm tm ec:Int) (ins acks:List Int) (h1:ins.length≤1048576) (h2:acks.length≤1048576):AC Tryz.prog 56 [.agg [.t (.int .i64 fr),.t (.int .i64 tk),.t (.int .i64 fs),.t (ints 3 ins),.t (ints 3 acks),.t (.int .i64 stk),.t (.int .i64 sm),.t (.int .i64 tm),.t (.int .i64 ec)]] (.agg [.t (.int .i64 fr),.t (.int .i64 tk),.t (.int .i64 fs),.fr true 3 (Zak ins),.fr true 3 (Zak acks),.t (.int .i64 stk),.t (.int .i64 sm),.t (.int .i64 tm),.t (.int .i64 ec)]):=by
 have hi:=ZeX ins h1
 have ha:=ZeX acks h2
 refine AC.go Tryz.func56 Tryz.ntmps56 fun B W hr=>?_
 repeat' (first|refine pa ?_|(refine pb ?_ ?_<;>intro hg)|(refine Zab (n:=20) ?_;(first|refine pz3 hi ?_|refine pz3 ha ?_))|refine po ?_|fail)
 exact pfg
theorem Zve (fr tk fs stk sm tm ec:Int) (ins acks:List Int):AC Tryz.prog 57 [.agg [.t (.int .i64 fr),.t (.int .i64 tk),.t (.int .i64 fs),.t (ints 3 ins),.t (ints 3 acks),.t (.int .i64 stk),.t (.int .i64 sm),.t (.int .i64 tm),.t (.int .i64 ec)],.agg [.t (.int .i64 fr),.t (.int .i64 tk),.t (.int .i64 fs),.t (ints 3 ins),.t (ints 3 acks),.t (.int .i64 stk),.t (.int .i64 sm),.t (.int .i64 tm),.t (.int .i64 ec)]] (.t (.bool true)):=by
 refine AC.go Tryz.func57 Tryz.ntmps57 fun B W hr=>?_
 repeat' (first|refine pa ?_|(refine pb ?_ ?_<;>intro hg)|(refine Zab (n:=20) ?_;(first|refine Zaa (ZdK _) ?_))|refine po ?_|fail)
 all_goals refine pfin ?_
 all_goals exact .inl rfl
theorem Zva (fr tk fs stk sm tm ec:Int) (xs ys:List (List T)) (n1 n2:Nat) (k:Int) (hn1:xs.length=n1) (hu1:∀ x ∈ xs,x.length=1) (hn2:ys.length=n2) (hu2:∀ x ∈ ys,x.length=1) (h0:0≤k) (h1:k + n1 + n2≤1152921504606846976) :
  AM Tryz.prog 58 [(0,0,.row true true 3 xs),(1,0,.row true true 3 ys)] [.agg [.t (.int .i64 fr),.t (.int .i64 tk),.t (.int .i64 fs),.hnd 0 0,.hnd 1 0,.t (.int .i64 stk),.t (.int .i64 sm),.t (.int .i64 tm),.t (.int .i64 ec)],.t (.int .i64 k)]
   [(0,0,.row true true 3 (Zak (Zb8 k n1))),(1,0,.row true true 3 (Zak (Zb8 (k + n1) n2)))] (.t (.int .i64 (k+n1+n2))):=by
 have hm1:=Zdu xs n1 k hn1 hu1 h0 (by omega)
 have hm2:=Zdu ys n2 (k + n1) hn2 hu2 (by omega) (by omega)
 refine AM.go Tryz.func58 Tryz.ntmps58 fun B W hr=>?_
 repeat' (first|refine pa ?_|(refine pb ?_ ?_<;>intro hg)|(refine Zab (n:=20) ?_;(first|refine Zca (m:=[(0,_,_)]) (hm1) ?_|refine Zca (m:=[(0,_,_)]) (hm2) ?_))|refine po ?_|fail)
 (show Zbu _ _ _ _ _ _ _;refine ZgD ?_;first|exact .inl ⟨rfl,rfl,rfl⟩|refine .inr ⟨rfl,?_,(by exact pU2),rfl⟩)
 exact .inl rfl
theorem Zvl {p q:Pr} {x:PkV} (h:Zsj p x=some q):Zic q∧q.tracks=(Zsk p x).1:=by
 unfold Zsj at h
 split at h
 ·cases hr:Zqk { p with tracks:=(Zsk p x).1 } with
  | none=>rw [hr] at h;cases h
  | some r =>
   rw [hr] at h
   cases h
   obtain ⟨h1,h2,h3⟩:=Zr6 hr
   obtain ⟨c1,c2,c3⟩:=ZrO h1
   exact ⟨c1,c3.trans h3⟩
 ·cases h
theorem Zvj (p:Pr) (x:PkV) (hp:Zeq p):Zeq ((Zsj p x).getD p):=by
 cases h:Zsj p x with
 | none=>exact hp
 | some q=>exact Zp3 (Zvl h).1
def szPL (ins acks:List Int) (l:Int):Int:=if szI ins l < 0 then -1 else szI acks (szI ins l)
theorem Zvm {ins acks:List Int} {l:Int} (hl:l≤1048576) (h:¬ szPL ins acks l < 0):ins.length≤1048576∧acks.length≤1048576:=by
 unfold szPL szI at h
 repeat' split at h
 all_goals omega
theorem Zvc (fr tk fs stk sm tm ec:Int) (ins acks:List Int) (l:Int) (hl:0≤l):AC Tryz.prog 54 [.agg [.t (.int .i64 fr),.t (.int .i64 tk),.t (.int .i64 fs),.t (ints 3 ins),.t (ints 3 acks),.t (.int .i64 stk),.t (.int .i64 sm),.t (.int .i64 tm),.t (.int .i64 ec)],.t (.int .i64 l)] (.t (.int .i64 (szPL ins acks l))):=by
 by_cases h:szI ins l < 0
 ·have h2:szPL ins acks l=-1:=by rw [szPL,if_pos h]
  have hs:=ZeW ins l hl
  refine AC.go Tryz.func54 Tryz.ntmps54 fun B W hr=>?_
  repeat' (first|refine pa ?_|(refine pb ?_ ?_<;>intro hg)|(refine Zab (n:=20) ?_;(first|refine Zaa hs ?_))|refine po ?_|fail)
  refine pfin ?_
  exact .inl (congrArg (T.int .i64) h2.symm)
 ·have h2:szPL ins acks l=szI acks (szI ins l):=by rw [szPL,if_neg h]
  have hs:=ZeW ins l hl
  have hs2:=ZeW acks (szI ins l) (by omega)
  have hd:szI acks (szI ins l) < 0→szI acks (szI ins l)=-1:=fun h=>by unfold szI at h ⊢;split<;>split at h<;>omega
  refine AC.go Tryz.func54 Tryz.ntmps54 fun B W hr=>?_
  repeat' (first|refine pa ?_|(refine pb ?_ ?_<;>intro hg)|(refine Zab (n:=20) ?_;(first|refine Zaa hs ?_|refine Zaa hs2 ?_))|refine po ?_|fail)
  all_goals refine pfin ?_
  all_goals exact .inl (congrArg (T.int .i64) (by omega))
theorem Zvg (p:Pr):∃ r:Int,AC Tryz.prog 29 [.agg [.t (.int .i64 p.me),.t (.int .i64 p.delay),.t (.int .i64 p.ahead),.t (.int .i64 p.seed),.t (.lst false 175 (p.tracks.map trackC)),.t (.lst true 9 (Zai p.base.level)),.t (.int .i64 p.base.tick),.t (.int .i64 p.base.seed),.t (ints 3 p.base.scores),.t (.lst true 204 (p.base.bodies.map bodyC)),.t (.lst true 9 (Zai p.now.level)),.t (.int .i64 p.now.tick),.t (.int .i64 p.now.seed),.t (ints 3 p.now.scores),.t (.lst true 204 (p.now.bodies.map bodyC)),.t (.lst false 27 (p.used.map trackC)),.t (.lst true 179 (p.saves.map saveC)),.t (ints 3 p.sums),.t (.int .i64 p.ft),.t (.int .i64 p.fp),.t (.int .i64 p.fa),.t (.int .i64 p.rolls),.t (.int .i64 p.again)],.t (.int .i64 1048576)] (.t (.int .i64 r))∧(¬ r < 0→(Zeq p∧Zc0 p)∧r≤1048576):=by
 have h1:=Zj2 p.tracks 1048576 (by omega)
 by_cases c1:ZfF p.tracks 1048576 < 0
 ·refine ⟨-1,?_,fun h=>absurd (show (-1:Int) < 0 by omega) h⟩
  refine AC.go Tryz.func29 Tryz.ntmps29 fun B W hr=>?_
  repeat' (first|refine pa ?_|(refine pb ?_ ?_<;>intro hg)|(refine Zab (n:=20) ?_;(first|refine Zaa h1 ?_))|refine po ?_|fail)
  exact pfr
 have e1:=Znd c1
 have t1:p.tracks.length≤1048576∧∀ k,k < p.tracks.length→(p.tracks.getD k default).length≤1048576:=⟨by omega,fun k hk=>by have:=ZoL hk;omega⟩
 have b1:ZfF p.tracks 1048576≤1048576:=by omega
 clear e1
 generalize ZfF p.tracks 1048576=n1 at h1 c1 b1
 have h2:=Zhq p.base.level p.base.tick p.base.seed p.base.scores p.base.bodies n1 (by omega)
 by_cases c2:szW p.base.level p.base.scores p.base.bodies n1 < 0
 ·refine ⟨-1,?_,fun h=>absurd (show (-1:Int) < 0 by omega) h⟩
  refine AC.go Tryz.func29 Tryz.ntmps29 fun B W hr=>?_
  repeat' (first|refine pa ?_|(refine pb ?_ ?_<;>intro hg)|(refine Zab (n:=20) ?_;(first|refine Zaa h1 ?_|refine Zaa h2 ?_))|refine po ?_|fail)
  exact pfr
 have t2:=Zpg c2
 generalize szW p.base.level p.base.scores p.base.bodies n1=n2 at h2 c2 t2
 have h3:=Zhq p.now.level p.now.tick p.now.seed p.now.scores p.now.bodies n2 (by omega)
 by_cases c3:szW p.now.level p.now.scores p.now.bodies n2 < 0
 ·refine ⟨-1,?_,fun h=>absurd (show (-1:Int) < 0 by omega) h⟩
  refine AC.go Tryz.func29 Tryz.ntmps29 fun B W hr=>?_
  repeat' (first|refine pa ?_|(refine pb ?_ ?_<;>intro hg)|(refine Zab (n:=20) ?_;(first|refine Zaa h1 ?_|refine Zaa h2 ?_|refine Zaa h3 ?_))|refine po ?_|fail)
  exact pfr
 have t3:=Zpg c3
 generalize szW p.now.level p.now.scores p.now.bodies n2=n3 at h3 c3 t3
 have h4:=Zly p.used n3 (by omega)
 by_cases c4:ZfF p.used n3 < 0
 ·refine ⟨-1,?_,fun h=>absurd (show (-1:Int) < 0 by omega) h⟩
  refine AC.go Tryz.func29 Tryz.ntmps29 fun B W hr=>?_
  repeat' (first|refine pa ?_|(refine pb ?_ ?_<;>intro hg)|(refine Zab (n:=20) ?_;(first|refine Zaa h1 ?_|refine Zaa h2 ?_|refine Zaa h3 ?_|refine Zaa h4 ?_))|refine po ?_|fail)
  exact pfr
 have e4:=Znd c4
 have t4:p.used.length≤1048576∧∀ k,k < p.used.length→(p.used.getD k default).length≤1048576:=⟨by omega,fun k hk=>by have:=ZoL hk;omega⟩
 have b4:ZfF p.used n3≤1048576:=by omega
 clear e4
 generalize ZfF p.used n3=n4 at h4 c4 b4
 have h5:=ZlA p.saves n4 (by omega)
 by_cases c5:szSv p.saves n4 < 0
 ·refine ⟨-1,?_,fun h=>absurd (show (-1:Int) < 0 by omega) h⟩
  refine AC.go Tryz.func29 Tryz.ntmps29 fun B W hr=>?_
  repeat' (first|refine pa ?_|(refine pb ?_ ?_<;>intro hg)|(refine Zab (n:=20) ?_;(first|refine Zaa h1 ?_|refine Zaa h2 ?_|refine Zaa h3 ?_|refine Zaa h4 ?_|refine Zaa h5 ?_))|refine po ?_|fail)
  exact pfr
 have t5:=Zqc c5
 have d5:=Zpe c5
 generalize szSv p.saves n4=n5 at h5 c5 t5
 have h6:=ZeW p.sums n5 (by omega)
 by_cases c6:szI p.sums n5 < 0
 ·refine ⟨-1,?_,fun h=>absurd (show (-1:Int) < 0 by omega) h⟩
  refine AC.go Tryz.func29 Tryz.ntmps29 fun B W hr=>?_
  repeat' (first|refine pa ?_|(refine pb ?_ ?_<;>intro hg)|(refine Zab (n:=20) ?_;(first|refine Zaa h1 ?_|refine Zaa h2 ?_|refine Zaa h3 ?_|refine Zaa h4 ?_|refine Zaa h5 ?_|refine Zaa h6 ?_))|refine po ?_|fail)
  exact pfr
 have e6:=Zvk c6
 refine ⟨szI p.sums n5,?_,fun _=>⟨⟨⟨t1,by omega,by omega,t4,by omega,by omega⟩,fun s hs=>by have:=d5 s hs;omega⟩,by omega⟩⟩
 refine AC.go Tryz.func29 Tryz.ntmps29 fun B W hr=>?_
 repeat' (first|refine pa ?_|(refine pb ?_ ?_<;>intro hg)|(refine Zab (n:=20) ?_;(first|refine Zaa h1 ?_|refine Zaa h2 ?_|refine Zaa h3 ?_|refine Zaa h4 ?_|refine Zaa h5 ?_|refine Zaa h6 ?_))|refine po ?_|fail)
 exact pfr
end Go.Proofs.YthfaongbpdnlnaaGreat
