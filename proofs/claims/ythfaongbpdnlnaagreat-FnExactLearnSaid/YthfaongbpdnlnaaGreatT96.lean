/- What is proved: contracts on the worlds that a peer has saved, program and reference alike.
   Conditions: the peer's lists and differences can be walked. -/
import Derived.Test.YthfaongbpdnlnaaGreatAbsVf
import Derived.Test.YthfaongbpdnlnaaGreatT102s
namespace Go.Proofs.YthfaongbpdnlnaaGreat
set_option maxHeartbeats 4000000
set_option maxRecDepth 20000
set_option linter.unusedSimpArgs false
set_option linter.unusedVariables false
open Go.RowKit Ab
theorem Zqo (p:Pr) (hp:Zeq p):AC Tryz.prog 137 [.agg [.t (.int .i64 p.me),.t (.int .i64 p.delay),.t (.int .i64 p.ahead),.t (.int .i64 p.seed),.t (.lst false 46 (p.tracks.map trackC)),.t (.lst true 9 (Zai p.base.level)),.t (.int .i64 p.base.tick),.t (.int .i64 p.base.seed),.t (ints 3 p.base.scores),.t (.lst true 114 (p.base.bodies.map bodyC)),.t (.lst true 9 (Zai p.now.level)),.t (.int .i64 p.now.tick),.t (.int .i64 p.now.seed),.t (ints 3 p.now.scores),.t (.lst true 114 (p.now.bodies.map bodyC)),.t (.lst false 27 (p.used.map trackC)),.t (.lst true 100 (p.saves.map saveC)),.t (ints 3 p.sums),.t (.int .i64 p.ft),.t (.int .i64 p.fp),.t (.int .i64 p.fa),.t (.int .i64 p.rolls),.t (.int .i64 p.again)]] (.t (.bool (ZnB p))):=by
 have hpo:=Zgt p hp.tracks.1
 unfold ZnB
 by_cases c:Zb9 p=true
 ·rw [c] at hpo ⊢
  obtain ⟨n1,n2,n3,n4,n5,n6,hme,hm,n9,n10⟩:=ZqO (Zbq.1 c)
  generalize p.me.toNat=m at hme hm ⊢
  by_cases c1:(p.used.length:Int) < p.ahead
  ·rw [decide_eq_true c1]
   refine AC.go Tryz.func137 Tryz.ntmps137 fun B W hr=>?_
   repeat' (first|refine pa ?_|(refine pb ?_ ?_<;>intro hg)|refine ZnM ?_|(refine Zab (n:=20) ?_;(first|refine Zaa hpo ?_))|refine po ?_|(refine ZrL ?_)|fail)
   exact pfr
  ·rw [decide_eq_false c1]
   refine AC.go Tryz.func137 Tryz.ntmps137 fun B W hr=>?_
   repeat' (first|refine pa ?_|(refine pb ?_ ?_<;>intro hg)|refine ZnM ?_|(refine Zab (n:=20) ?_;(first|refine Zaa hpo ?_))|refine po ?_|(refine ZrL ?_)|fail)
   exact pfr
 ·rw [Bool.not_eq_true] at c
  rw [c] at hpo ⊢
  refine AC.go Tryz.func137 Tryz.ntmps137 fun B W hr=>?_
  repeat' (first|refine pa ?_|(refine pb ?_ ?_<;>intro hg)|(refine Zab (n:=20) ?_;(first|refine Zaa hpo ?_))|refine po ?_|(refine ZrL ?_)|fail)
  exact pfr
theorem ZqI (p:Pr) (hp:Zeq p):AC Tryz.prog 131 [.agg [.t (.int .i64 p.me),.t (.int .i64 p.delay),.t (.int .i64 p.ahead),.t (.int .i64 p.seed),.t (.lst false 46 (p.tracks.map trackC)),.t (.lst true 9 (Zai p.base.level)),.t (.int .i64 p.base.tick),.t (.int .i64 p.base.seed),.t (ints 3 p.base.scores),.t (.lst true 114 (p.base.bodies.map bodyC)),.t (.lst true 9 (Zai p.now.level)),.t (.int .i64 p.now.tick),.t (.int .i64 p.now.seed),.t (ints 3 p.now.scores),.t (.lst true 114 (p.now.bodies.map bodyC)),.t (.lst false 27 (p.used.map trackC)),.t (.lst true 100 (p.saves.map saveC)),.t (ints 3 p.sums),.t (.int .i64 p.ft),.t (.int .i64 p.fp),.t (.int .i64 p.fa),.t (.int .i64 p.rolls),.t (.int .i64 p.again)]] (.t (.int .i64 (ZdR p))):=by
 have hpo:=Zgt p hp.tracks.1
 unfold ZdR
 by_cases c:Zb9 p=true
 ·rw [if_pos c]
  rw [c] at hpo
  obtain ⟨n1,n2,n3,n4,n5,n6,hme,hm,n9,n10⟩:=ZqO (Zbq.1 c)
  refine AC.go Tryz.func131 Tryz.ntmps131 fun B W hr=>?_
  repeat' (first|refine pa ?_|(refine pb ?_ ?_<;>intro hg)|(refine Zab (n:=20) ?_;(first|refine Zaa hpo ?_))|refine po ?_|fail)
  refine aW.loopF rfl (fun q:Nat=>[(3,.t (.int .i64 (q:Nat)))]) [(1,_)] (fun q=>[]) [(1,_,_)] (fun q=>q≤p.used.length∧Zpu p.tracks p.base.tick p.used (p.used.length - q) q=Zpu p.tracks p.base.tick p.used p.used.length 0) (fun q=>p.used.length - q) 0 ⟨Nat.zero_le _,rfl⟩ (by (exact plei)) ?_
  rintro q hI
  obtain ⟨hq,hg⟩:q≤p.used.length∧Zpu p.tracks p.base.tick p.used (p.used.length - q) q=Zpu p.tracks p.base.tick p.used p.used.length 0:=hI
  refine pln ?_
  by_cases hqn:q < p.used.length
  ·have hra:=Zn8 p.tracks (p.base.tick + (q:Int))
   have hqe:=ZrI (rowV p.tracks (p.base.tick + (q:Int))).1 (p.used.getD q default)
   by_cases hx:(rowV p.tracks (p.base.tick + (q:Int))).1=p.used.getD q default
   ·rw [decide_eq_true hx] at hqe
    repeat' (first|refine pa ?_|(refine pb ?_ ?_<;>intro hg)|(refine Zab (n:=20) ?_;(first|refine Zaa hqe ?_|refine Zc5 hra ?_))|refine po ?_|fail)
    exact ⟨q + 1,⟨hqn,by rw [← Zq4 hqn hx];exact hg⟩,by show p.used.length - (q + 1) < p.used.length - q;omega,by (exact ple)⟩
   ·rw [decide_eq_false hx] at hqe
    rw [← hg,Zq5 hqn hx]
    repeat' (first|refine pa ?_|(refine pb ?_ ?_<;>intro hg)|(refine Zab (n:=20) ?_;(first|refine Zaa hqe ?_|refine Zc5 hra ?_))|refine po ?_|fail)
    exact pfr
  ·obtain rfl:q=p.used.length:=by omega
   rw [← hg,Zrl]
   repeat' (first|refine pa ?_|(refine pb ?_ ?_<;>intro hg)|refine po ?_|fail)
   exact pfr
 ·rw [if_neg c]
  rw [Bool.not_eq_true] at c
  rw [c] at hpo
  refine AC.go Tryz.func131 Tryz.ntmps131 fun B W hr=>?_
  repeat' (first|refine pa ?_|(refine pb ?_ ?_<;>intro hg)|(refine Zab (n:=20) ?_;(first|refine Zaa hpo ?_))|refine po ?_|fail)
  exact pfr
theorem Zio (w:Wd) (row:List Int) (t p a:Int) (h1:w.level.length≤1048576) (h2:w.scores.length≤1048576) (h3:w.bodies.length≤1048576) (v:Wd) (hv:v=ZbA (ZbY w row) w t p a):AC Tryz.prog 48 [.agg [.t (.lst true 9 (Zai w.level)),.t (.int .i64 w.tick),.t (.int .i64 w.seed),.t (ints 3 w.scores),.t (.lst true 114 (w.bodies.map bodyC))],.t (ints 3 row),.agg [.t (.int .i64 t),.t (.int .i64 p),.t (.int .i64 a)]] (.agg [.fr true 9 (Zai v.level),.t (.int .i64 v.tick),.t (.int .i64 v.seed),.fr true 3 (Zak v.scores),.fr true 114 (v.bodies.map bodyC)]):=by
 have hst:=Zjk w row h1 h2 h3 (ZbY w row) rfl
 have hfo:=Zhs t p a w.scores.length (by omega)
 have hsl:=Zmj (w:=w) (row:=row)
 have hok:=Zlb (w:=w) (row:=row)
 have hsp:ZaV w→ZaV (ZbY w row):=step_ok
 generalize ZbY w row=u at *
 have hul:=Zal u.scores
 have hwl:=Zal w.scores
 cases hf:ZcX t p a w.scores.length with
 | false =>
  rw [hf] at hfo
  rw [ZdQ fun e=>by rw [hf] at e;cases e.1] at hv
  subst hv
  refine AC.go Tryz.func48 Tryz.ntmps48 fun B W hr=>?_
  repeat' (first|refine pa ?_|(refine pb ?_ ?_<;>intro hg)|(refine Zab (n:=20) ?_;(first|refine Zaa hfo ?_|refine pz3 hst ?_))|refine po ?_|fail)
  exact pfg
 | true =>
  rw [hf] at hfo
  by_cases ht:u.tick=t
  case neg =>
   rw [ZdQ fun e=>ht e.2.1] at hv
   subst hv
   refine AC.go Tryz.func48 Tryz.ntmps48 fun B W hr=>?_
   repeat' (first|refine pa ?_|(refine pb ?_ ?_<;>intro hg)|(refine Zab (n:=20) ?_;(first|refine Zaa hfo ?_|refine pz3 hst ?_))|refine po ?_|fail)
   exact pfg
  by_cases hlt:w.tick < t
  case neg =>
   rw [ZdQ fun e=>hlt e.2.2] at hv
   subst hv
   refine AC.go Tryz.func48 Tryz.ntmps48 fun B W hr=>?_
   repeat' (first|refine pa ?_|(refine pb ?_ ?_<;>intro hg)|(refine Zab (n:=20) ?_;(first|refine Zaa hfo ?_|refine pz3 hst ?_))|refine po ?_|fail)
   exact pfg
  have hwp:=hsp (hok (by omega))
  obtain ⟨f1,f2,f3,f4,f5,f6⟩:=of_decide_eq_true (show decide (0≤t∧t≤400∧0≤p∧p < (w.scores.length:Int)∧0≤a∧a≤9)=true from hf)
  obtain ⟨m,rfl⟩:=Int.eq_ofNat_of_zero_le f3
  have hml:m < u.scores.length:=by omega
  have hsc:=hwp.scores m hml
  rw [show ZbA u w t m a={ u with scores:=u.scores.set m (if 1000000 < u.scores.getD m default + a then 1000000 else u.scores.getD m default + a) } from if_pos ⟨hf,ht,hlt⟩] at hv
  rw [show v.level=u.level by rw [hv],show v.tick=u.tick by rw [hv],show v.seed=u.seed by rw [hv],show Zak v.scores=(Zak u.scores).set m [.int .i64 (if 1000000 < u.scores.getD m default + a then 1000000 else u.scores.getD m default + a)] by rw [hv];exact ints_set,show v.bodies=u.bodies by rw [hv]]
  refine AC.go Tryz.func48 Tryz.ntmps48 fun B W hr=>?_
  repeat' (first|refine pa ?_|(refine pb ?_ ?_<;>intro hg)|(refine Zab (n:=20) ?_;(first|refine Zaa hfo ?_|refine pz3 hst ?_))|refine po ?_|(refine T83d1 ?_)|fail)
  exact pfg
theorem Zj9 (p:Pr) (k:Nat) (hks:k < p.saves.length) (hpv:p.saves.length≤1048576) (hd:Zc0 p):AC Tryz.prog 96 [.agg [.t (.int .i64 p.me),.t (.int .i64 p.delay),.t (.int .i64 p.ahead),.t (.int .i64 p.seed),.t (.lst false 46 (p.tracks.map trackC)),.t (.lst true 9 (Zai p.base.level)),.t (.int .i64 p.base.tick),.t (.int .i64 p.base.seed),.t (ints 3 p.base.scores),.t (.lst true 114 (p.base.bodies.map bodyC)),.t (.lst true 9 (Zai p.now.level)),.t (.int .i64 p.now.tick),.t (.int .i64 p.now.seed),.t (ints 3 p.now.scores),.t (.lst true 114 (p.now.bodies.map bodyC)),.t (.lst false 27 (p.used.map trackC)),.t (.lst true 100 (p.saves.map saveC)),.t (ints 3 p.sums),.t (.int .i64 p.ft),.t (.int .i64 p.fp),.t (.int .i64 p.fa),.t (.int .i64 p.rolls),.t (.int .i64 p.again)],.t (.int .i64 k)] (.tup [.t (.str ((Zba (Zbp p.base) (p.saves.take (k + 1))).getD [])),.t (.bool (Zba (Zbp p.base) (p.saves.take (k + 1))).isSome)]):=by
 have hsl:(p.saves.map saveC).length=p.saves.length:=List.length_map _
 have hwb:=Zfl p.base
 have hb0:(Zbp p.base).length≤20000:=by have:=ZgG (w:=p.base);omega
 generalize Zbp p.base=b0 at hwb hb0 ⊢
 refine AC.go Tryz.func96 Tryz.ntmps96 fun B W hr=>?_
 repeat' (first|refine pa ?_|(refine pb ?_ ?_<;>intro hg)|(refine Zab (n:=20) ?_;(first|refine Zaa hwb ?_))|refine po ?_|fail)
 refine aW.loopF rfl (fun q:Nat×List UInt8=>[(7,.t (.int .i64 q.1)),(6,.t (.str q.2))]) [(2,_),(1,_)] (fun q=>[]) [(2,_,_)] (fun q=>q.1≤k + 1∧Zba b0 (p.saves.take q.1)=some q.2) (fun q=>k + 1 - q.1) (0,b0) ⟨Nat.zero_le _,rfl⟩ (by (exact plei)) ?_
 rintro ⟨j,tx⟩ hI
 obtain ⟨hj,hb⟩:j≤k + 1∧Zba b0 (p.saves.take j)=some tx:=hI
 refine pln ?_
 by_cases hjk:j < k + 1
 ·have hst:=ZgO (b:=b0) (show j < p.saves.length by omega)
  rw [hb] at hst
  replace hst:Zba b0 (p.saves.take (j + 1))=Zar tx (p.saves.getD j default).2:=hst
  have had:=Zim tx (p.saves.getD j default).2 (Zmt hd (by omega))
  cases ha:Zar tx (p.saves.getD j default).2 with
  | none =>
   rw [ha] at had hst
   rw [ZfU hst (by omega)]
   dsimp only [Option.getD_none,Option.isSome_none] at had ⊢
   repeat' (first|refine pa ?_|(refine pb ?_ ?_<;>intro hg)|(refine Zab (n:=20) ?_;(first|refine Zaa had ?_))|refine po ?_|fail)
   exact pfg
  | some ty =>
   rw [ha] at had hst
   dsimp only [Option.getD_some,Option.isSome_some] at had
   repeat' (first|refine pa ?_|(refine pb ?_ ?_<;>intro hg)|(refine Zab (n:=20) ?_;(first|refine Zaa had ?_))|refine po ?_|fail)
   exact ⟨(j + 1,ty),⟨hjk,hst⟩,by show k + 1 - (j + 1) < k + 1 - j;omega,by (exact ple)⟩
 ·obtain rfl:j=k + 1:=by omega
  rw [hb]
  dsimp only [Option.getD_some,Option.isSome_some]
  repeat' (first|refine pa ?_|(refine pb ?_ ?_<;>intro hg)|refine po ?_|fail)
  exact pfg
theorem ZiA (p:Pr) (t:Int) (hp:Zeq p) (hd:Zc0 p) (v:Wd) (hv:v=(Zbn p t).getD ZcB):AC Tryz.prog 30 [.agg [.t (.int .i64 p.me),.t (.int .i64 p.delay),.t (.int .i64 p.ahead),.t (.int .i64 p.seed),.t (.lst false 46 (p.tracks.map trackC)),.t (.lst true 9 (Zai p.base.level)),.t (.int .i64 p.base.tick),.t (.int .i64 p.base.seed),.t (ints 3 p.base.scores),.t (.lst true 114 (p.base.bodies.map bodyC)),.t (.lst true 9 (Zai p.now.level)),.t (.int .i64 p.now.tick),.t (.int .i64 p.now.seed),.t (ints 3 p.now.scores),.t (.lst true 114 (p.now.bodies.map bodyC)),.t (.lst false 27 (p.used.map trackC)),.t (.lst true 100 (p.saves.map saveC)),.t (ints 3 p.sums),.t (.int .i64 p.ft),.t (.int .i64 p.fp),.t (.int .i64 p.fa),.t (.int .i64 p.rolls),.t (.int .i64 p.again)],.t (.int .i64 t)] (.tup [.agg [.fr true 9 (Zai v.level),.t (.int .i64 v.tick),.t (.int .i64 v.seed),.fr true 3 (Zak v.scores),.fr true 114 (v.bodies.map bodyC)],.t (.bool (Zbn p t).isSome)]):=by
 have hpo:=Zgt p hp.tracks.1
 have htl0:(p.tracks.map trackC).length=p.tracks.length:=List.length_map _
 by_cases h1:Zb9 p=true
 case neg =>
  rw [ZhX fun h=>h1 h.1] at hv ⊢
  rw [Bool.not_eq_true] at h1
  rw [h1] at hpo
  dsimp only [Option.getD_none,Option.isSome_none] at hv ⊢
  subst hv
  refine AC.go Tryz.func30 Tryz.ntmps30 fun B W hr=>?_
  repeat' (first|refine pa ?_|(refine pb ?_ ?_<;>intro hg)|(refine Zab (n:=20) ?_;(first|refine Zaa hpo ?_))|refine po ?_|fail)
  exact pfg
 rw [h1] at hpo
 have hpp:=Zbq.1 h1
 have hsv:=hpp.saves
 have hld:=hpp.lead
 have hbt:=hpp.base.tick
 have hnt:=hpp.now.tick
 have hpv:=hp.saves
 by_cases h2:inR t p.base.tick (p.now.tick - 1)=true
 case neg =>
  rw [ZhX fun h=>h2 (Zae.2 ⟨h.2.1,by have:=h.2.2;omega⟩)] at hv ⊢
  rw [Bool.not_eq_true] at h2
  dsimp only [Option.getD_none,Option.isSome_none] at hv ⊢
  subst hv
  refine AC.go Tryz.func30 Tryz.ntmps30 fun B W hr=>?_
  repeat' (first|refine pa ?_|(refine pb ?_ ?_<;>intro hg)|(refine Zab (n:=20) ?_;(first|refine Zaa hpo ?_|refine Zaa ((Zah _ _ _)) ?_))|refine po ?_|fail)
  exact pfg
 have h3:=Zae.1 h2
 have hok:ZhY p t:=⟨h1,h3.1,by omega⟩
 obtain ⟨k,hk⟩:=Int.eq_ofNat_of_zero_le (show 0≤t - p.base.tick by omega)
 have hks:k < p.saves.length:=by omega
 have hlb:=Zj9 p k hks hp.saves hd
 have hb0:(Zbp p.base).length≤20000:=by have:=ZgG (w:=p.base);omega
 rw [Zk4 hok hk rfl] at hv ⊢
 rw [← hk] at hlb
 have hp2:=hp.base.1
 cases hb:Zba (Zbp p.base) (p.saves.take (k + 1)) with
 | none =>
  have hrw:=ZfR p.base.level [] hp2 (by show 0≤1073741824;omega) _ rfl
  generalize (Za2 p.base.level []).getD ZcB=z at hrw
  generalize (Za2 p.base.level []).isSome=zb at hrw
  rw [hb] at hv hlb
  dsimp only [Option.getD_none,Option.isSome_none,Option.bind_none] at hv hlb ⊢
  subst hv
  refine AC.go Tryz.func30 Tryz.ntmps30 fun B W hr=>?_
  repeat' (first|refine pa ?_|(refine pb ?_ ?_<;>intro hg)|(refine Zab (n:=20) ?_;(first|refine Zaa hpo ?_|refine Zaa ((Zah _ _ _)) ?_|refine Zaa hlb ?_|refine pz3 hrw ?_))|refine po ?_|fail)
  exact pfg
 | some tx =>
 have htl:=ZhA hb0 hb
 have hrw:=ZfR p.base.level tx hp2 (by omega) _ rfl
 rw [hb] at hv hlb
 rw [Option.bind_some] at hv ⊢
 dsimp only [Option.getD_some,Option.isSome_some] at hlb
 cases hr:Za2 p.base.level tx with
 | none =>
  rw [hr] at hrw
  rw [ZhT hr] at hv ⊢
  dsimp only [Option.getD_none,Option.isSome_none] at hv hrw ⊢
  subst hv
  refine AC.go Tryz.func30 Tryz.ntmps30 fun B W hr=>?_
  repeat' (first|refine pa ?_|(refine pb ?_ ?_<;>intro hg)|(refine Zab (n:=20) ?_;(first|refine Zaa hpo ?_|refine Zaa ((Zah _ _ _)) ?_|refine Zaa hlb ?_|refine pz3 hrw ?_))|refine po ?_|fail)
  exact pfg
 | some w =>
 have hwl:=Zal w.scores
 rw [hr] at hrw
 rw [ZhU hr] at hv ⊢
 dsimp only [Option.getD_some,Option.isSome_some] at hrw
 by_cases c1:w.tick=t
 case neg =>
  rw [if_neg fun e=>c1 e.1] at hv ⊢
  dsimp only [Option.getD_none,Option.isSome_none] at hv ⊢
  subst hv
  refine AC.go Tryz.func30 Tryz.ntmps30 fun B W hr=>?_
  repeat' (first|refine pa ?_|(refine pb ?_ ?_<;>intro hg)|(refine Zab (n:=20) ?_;(first|refine Zaa hpo ?_|refine Zaa ((Zah _ _ _)) ?_|refine Zaa hlb ?_|refine pz3 hrw ?_))|refine po ?_|fail)
  exact pfg
 by_cases c2:w.scores.length=p.tracks.length
 case neg =>
  rw [if_neg fun e=>c2 e.2] at hv ⊢
  dsimp only [Option.getD_none,Option.isSome_none] at hv ⊢
  subst hv
  refine AC.go Tryz.func30 Tryz.ntmps30 fun B W hr=>?_
  repeat' (first|refine pa ?_|(refine pb ?_ ?_<;>intro hg)|(refine Zab (n:=20) ?_;(first|refine Zaa hpo ?_|refine Zaa ((Zah _ _ _)) ?_|refine Zaa hlb ?_|refine pz3 hrw ?_))|refine po ?_|fail)
  exact pfg
 rw [if_pos ⟨c1,c2⟩] at hv ⊢
 dsimp only [Option.getD_some,Option.isSome_some] at hv ⊢
 subst hv
 refine AC.go Tryz.func30 Tryz.ntmps30 fun B W hr=>?_
 repeat' (first|refine pa ?_|(refine pb ?_ ?_<;>intro hg)|(refine Zab (n:=20) ?_;(first|refine Zaa hpo ?_|refine Zaa ((Zah _ _ _)) ?_|refine Zaa hlb ?_|refine pz3 hrw ?_))|refine po ?_|fail)
 exact pfg
end Go.Proofs.YthfaongbpdnlnaaGreat
