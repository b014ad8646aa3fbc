/- What is proved: contracts on adding inputs to tracks and on taking packets. Conditions: as each lemma says. -/
import Derived.Test.YthfaongbpdnlnaaGreatQPC
import Derived.Test.YthfaongbpdnlnaaGreatQAbsVf
import Derived.Test.YthfaongbpdnlnaaGreatQT102
import Derived.Test.YthfaongbpdnlnaaGreatQT99bi
import Derived.Test.YthfaongbpdnlnaaGreatT12uc
import Derived.Test.YthfaongbpdnlnaaGreatQT103
namespace Go.Proofs.YthfaongbpdnlnaaGreat
set_option maxHeartbeats 4000000
set_option maxRecDepth 20000
set_option linter.unusedSimpArgs false
set_option linter.unusedVariables false
open Go.RowKit Ab
theorem Zqo (p:Pr) (hp:Zeq p):AC Tryz.prog 137 [.agg (pcR p)] (.t (.bool (ZnB p))):=by
 have hpo:=Zgt p hp.tracks.1
 dsimp only [pcR] at hpo
 unfold ZnB
 by_cases c:Zb9 p=true
 ·rw [c] at hpo ⊢
  obtain ⟨n1,n2,n3,n4,n5,n6,hme,hm,n9,n10⟩:=ZqO (Zbq.1 c)
  generalize p.me.toNat=m at hme hm ⊢
  by_cases c1:(p.used.length:Int) < p.ahead
  ·rw [decide_eq_true c1]
   refine AC.go Tryz.func137 Tryz.ntmps137 fun B W hr=>?_
   dsimp only [pcR]
   repeat' (first|refine pa ?_|(refine pb ?_ ?_<;>intro hg)|refine ZnM ?_|(refine z9 ?_;(refine Zaa hpo ?_))|refine po ?_|(refine ZrL ?_)|fail)
   exact pfr
  ·rw [decide_eq_false c1]
   refine AC.go Tryz.func137 Tryz.ntmps137 fun B W hr=>?_
   dsimp only [pcR]
   repeat' (first|refine pa ?_|(refine pb ?_ ?_<;>intro hg)|refine ZnM ?_|(refine z9 ?_;(refine Zaa hpo ?_))|refine po ?_|(refine ZrL ?_)|fail)
   exact pfr
 ·rw [Bool.not_eq_true] at c
  rw [c] at hpo ⊢
  refine AC.go Tryz.func137 Tryz.ntmps137 fun B W hr=>?_
  dsimp only [pcR]
  repeat' (first|refine pa ?_|(refine pb ?_ ?_<;>intro hg)|(refine z9 ?_;(refine Zaa hpo ?_))|refine po ?_|(refine ZrL ?_)|fail)
  exact pfr
theorem ZqI (p:Pr) (hp:Zeq p):AC Tryz.prog 131 [.agg (pcR p)] (.t (.int .i64 (ZdR p))):=by
 have hpo:=Zgt p hp.tracks.1
 dsimp only [pcR] at hpo
 unfold ZdR
 by_cases c:Zb9 p=true
 ·rw [if_pos c]
  rw [c] at hpo
  obtain ⟨n1,n2,n3,n4,n5,n6,hme,hm,n9,n10⟩:=ZqO (Zbq.1 c)
  refine AC.go Tryz.func131 Tryz.ntmps131 fun B W hr=>?_
  dsimp only [pcR]
  repeat' (first|refine pa ?_|(refine pb ?_ ?_<;>intro hg)|(refine z9 ?_;(refine Zaa hpo ?_))|refine po ?_|fail)
  refine aW.loopF rfl (fun q:Nat=>[(3,.t (.int .i64 (q:Nat)))]) [(1,_)] (fun q=>[]) [(1,_,_)] (fun q=>q≤p.used.length∧Zpu p.tracks p.base.tick p.used (p.used.length - q) q=Zpu p.tracks p.base.tick p.used p.used.length 0) (fun q=>p.used.length - q) 0 ⟨Nat.zero_le _,rfl⟩ (by (exact plei)) ?_
  rintro q hI
  obtain ⟨hq,hg⟩:q≤p.used.length∧Zpu p.tracks p.base.tick p.used (p.used.length - q) q=Zpu p.tracks p.base.tick p.used p.used.length 0:=hI
  refine pln ?_
  by_cases hqn:q < p.used.length
  ·have hra:=Zn8 p.tracks (p.base.tick + (q:Int))
   have hqe:=ZrI (rowV p.tracks (p.base.tick + (q:Int))).1 (p.used.getD q default)
   by_cases hx:(rowV p.tracks (p.base.tick + (q:Int))).1=p.used.getD q default
   ·rw [decide_eq_true hx] at hqe
    repeat' (first|refine pa ?_|(refine pb ?_ ?_<;>intro hg)|(refine z9 ?_;(first|refine Zaa hqe ?_|refine Zc5 hra ?_))|refine po ?_|fail)
    exact ⟨q + 1,⟨hqn,by rw [← Zq4 hqn hx];exact hg⟩,by show p.used.length - (q + 1) < p.used.length - q;omega,by (exact ple)⟩
   ·rw [decide_eq_false hx] at hqe
    rw [← hg,Zq5 hqn hx]
    repeat' (first|refine pa ?_|(refine pb ?_ ?_<;>intro hg)|(refine z9 ?_;(first|refine Zaa hqe ?_|refine Zc5 hra ?_))|refine po ?_|fail)
    exact pfr
  ·obtain rfl:q=p.used.length:=by omega
   rw [← hg,Zrl]
   repeat' (first|refine pa ?_|(refine pb ?_ ?_<;>intro hg)|refine po ?_|fail)
   exact pfr
 ·rw [if_neg c]
  rw [Bool.not_eq_true] at c
  rw [c] at hpo
  refine AC.go Tryz.func131 Tryz.ntmps131 fun B W hr=>?_
  dsimp only [pcR]
  repeat' (first|refine pa ?_|(refine pb ?_ ?_<;>intro hg)|(refine z9 ?_;(refine Zaa hpo ?_))|refine po ?_|fail)
  exact pfr
theorem Zio (w:Wd) (row:List Int) (t p a:Int) (h1:w.level.length≤1048576) (h2:w.scores.length≤1048576) (h3:w.bodies.length≤1048576) (v:Wd) (hv:v=ZbA (ZbY w row) w t p a):AC Tryz.prog 48 [.agg [.t (.lst true 9 (Zai w.level)),.t (.int .i64 w.tick),.t (.int .i64 w.seed),.t (ints 3 w.scores),.t (.lst true 114 (w.bodies.map bodyC))],.t (ints 3 row),.agg [.t (.int .i64 t),.t (.int .i64 p),.t (.int .i64 a)]] (.agg [.fr true 9 (Zai v.level),.t (.int .i64 v.tick),.t (.int .i64 v.seed),.fr true 3 (Zak v.scores),.fr true 114 (v.bodies.map bodyC)]):=by
 have hst:=Zjk w row h1 h2 h3 (ZbY w row) rfl
 have hfo:=Zhs t p a w.scores.length (by omega)
 have hsl:=Zmj (w:=w) (row:=row)
 have hok:=Zlb (w:=w) (row:=row)
 have hsp:ZaV w→ZaV (ZbY w row):=step_ok
 generalize ZbY w row=u at *
 have hul:=Zal u.scores
 have hwl:=Zal w.scores
 cases hf:ZcX t p a w.scores.length with
 | false =>
  rw [hf] at hfo
  rw [ZdQ fun e=>by rw [hf] at e;cases e.1] at hv
  subst hv
  refine AC.go Tryz.func48 Tryz.ntmps48 fun B W hr=>?_
  repeat' (first|refine pa ?_|(refine pb ?_ ?_<;>intro hg)|(refine z9 ?_;(first|refine Zaa hfo ?_|refine pz3 hst ?_))|refine po ?_|fail)
  exact pfg
 | true =>
  rw [hf] at hfo
  by_cases ht:u.tick=t
  case neg =>
   rw [ZdQ fun e=>ht e.2.1] at hv
   subst hv
   refine AC.go Tryz.func48 Tryz.ntmps48 fun B W hr=>?_
   repeat' (first|refine pa ?_|(refine pb ?_ ?_<;>intro hg)|(refine z9 ?_;(first|refine Zaa hfo ?_|refine pz3 hst ?_))|refine po ?_|fail)
   exact pfg
  by_cases hlt:w.tick < t
  case neg =>
   rw [ZdQ fun e=>hlt e.2.2] at hv
   subst hv
   refine AC.go Tryz.func48 Tryz.ntmps48 fun B W hr=>?_
   repeat' (first|refine pa ?_|(refine pb ?_ ?_<;>intro hg)|(refine z9 ?_;(first|refine Zaa hfo ?_|refine pz3 hst ?_))|refine po ?_|fail)
   exact pfg
  have hwp:=hsp (hok (by omega))
  obtain ⟨f1,f2,f3,f4,f5,f6⟩:=of_decide_eq_true (show decide (0≤t∧t≤400∧0≤p∧p < (w.scores.length:Int)∧0≤a∧a≤9)=true from hf)
  obtain ⟨m,rfl⟩:=Int.eq_ofNat_of_zero_le f3
  have hml:m < u.scores.length:=by omega
  have hsc:=hwp.scores m hml
  rw [show ZbA u w t m a={ u with scores:=u.scores.set m (if 1000000 < u.scores.getD m default + a then 1000000 else u.scores.getD m default + a) } from if_pos ⟨hf,ht,hlt⟩] at hv
  rw [show v.level=u.level by rw [hv],show v.tick=u.tick by rw [hv],show v.seed=u.seed by rw [hv],show Zak v.scores=(Zak u.scores).set m [.int .i64 (if 1000000 < u.scores.getD m default + a then 1000000 else u.scores.getD m default + a)] by rw [hv];exact ints_set,show v.bodies=u.bodies by rw [hv]]
  refine AC.go Tryz.func48 Tryz.ntmps48 fun B W hr=>?_
  repeat' (first|refine pa ?_|(refine pb ?_ ?_<;>intro hg)|(refine z9 ?_;(first|refine Zaa hfo ?_|refine pz3 hst ?_))|refine po ?_|(refine T83d1 ?_)|fail)
  exact pfg
theorem Zj9 (p:Pr) (k:Nat) (hks:k < p.saves.length) (hpv:p.saves.length≤1048576) (hd:Zc0 p):AC Tryz.prog 96 [.agg (pcR p),.t (.int .i64 k)] (.tup [.t (.str ((Zba (Zbp p.base) (p.saves.take (k + 1))).getD [])),.t (.bool (Zba (Zbp p.base) (p.saves.take (k + 1))).isSome)]):=by
 have hsl:(p.saves.map saveC).length=p.saves.length:=List.length_map _
 have hwb:=Zfl p.base
 have hb0:(Zbp p.base).length≤20000:=by have:=ZgG (w:=p.base);omega
 generalize Zbp p.base=b0 at hwb hb0 ⊢
 refine AC.go Tryz.func96 Tryz.ntmps96 fun B W hr=>?_
 dsimp only [pcR]
 repeat' (first|refine pa ?_|(refine pb ?_ ?_<;>intro hg)|(refine z9 ?_;(refine Zaa hwb ?_))|refine po ?_|fail)
 refine aW.loopF rfl (fun q:Nat×List UInt8=>[(7,.t (.int .i64 q.1)),(6,.t (.str q.2))]) [(2,_),(1,_)] (fun q=>[]) [(2,_,_)] (fun q=>q.1≤k + 1∧Zba b0 (p.saves.take q.1)=some q.2) (fun q=>k + 1 - q.1) (0,b0) ⟨Nat.zero_le _,rfl⟩ (by (exact plei)) ?_
 rintro ⟨j,tx⟩ hI
 obtain ⟨hj,hb⟩:j≤k + 1∧Zba b0 (p.saves.take j)=some tx:=hI
 refine pln ?_
 by_cases hjk:j < k + 1
 ·have hst:=ZgO (b:=b0) (show j < p.saves.length by omega)
  rw [hb] at hst
  replace hst:Zba b0 (p.saves.take (j + 1))=Zar tx (p.saves.getD j default).2:=hst
  have had:=Zim tx (p.saves.getD j default).2 (Zmt hd (by omega))
  cases ha:Zar tx (p.saves.getD j default).2 with
  | none =>
   rw [ha] at had hst
   rw [ZfU hst (by omega)]
   dsimp only [Option.getD_none,Option.isSome_none] at had ⊢
   repeat' (first|refine pa ?_|(refine pb ?_ ?_<;>intro hg)|(refine z9 ?_;(refine Zaa had ?_))|refine po ?_|fail)
   exact pfg
  | some ty =>
   rw [ha] at had hst
   dsimp only [Option.getD_some,Option.isSome_some] at had
   repeat' (first|refine pa ?_|(refine pb ?_ ?_<;>intro hg)|(refine z9 ?_;(refine Zaa had ?_))|refine po ?_|fail)
   exact ⟨(j + 1,ty),⟨hjk,hst⟩,by show k + 1 - (j + 1) < k + 1 - j;omega,by (exact ple)⟩
 ·obtain rfl:j=k + 1:=by omega
  rw [hb]
  dsimp only [Option.getD_some,Option.isSome_some]
  repeat' (first|refine pa ?_|(refine pb ?_ ?_<;>intro hg)|refine po ?_|fail)
  exact pfg
theorem ZiA (p:Pr) (t:Int) (hp:Zeq p) (hd:Zc0 p) (v:Wd) (hv:v=(Zbn p t).getD ZcB):AC Tryz.prog 30 [.agg (pcR p),.t (.int .i64 t)] (.tup [.agg [.fr true 9 (Zai v.level),.t (.int .i64 v.tick),.t (.int .i64 v.seed),.fr true 3 (Zak v.scores),.fr true 114 (v.bodies.map bodyC)],.t (.bool (Zbn p t).isSome)]):=by
 have hpo:=Zgt p hp.tracks.1
 dsimp only [pcR] at hpo
 have htl0:(p.tracks.map trackC).length=p.tracks.length:=List.length_map _
 by_cases h1:Zb9 p=true
 case neg =>
  rw [ZhX fun h=>h1 h.1] at hv ⊢
  rw [Bool.not_eq_true] at h1
  rw [h1] at hpo
  dsimp only [Option.getD_none,Option.isSome_none] at hv ⊢
  subst hv
  refine AC.go Tryz.func30 Tryz.ntmps30 fun B W hr=>?_
  dsimp only [pcR]
  repeat' (first|refine pa ?_|(refine pb ?_ ?_<;>intro hg)|(refine z9 ?_;(refine Zaa hpo ?_))|refine po ?_|fail)
  exact pfg
 rw [h1] at hpo
 have hpp:=Zbq.1 h1
 have hsv:=hpp.saves
 have hld:=hpp.lead
 have hbt:=hpp.base.tick
 have hnt:=hpp.now.tick
 have hpv:=hp.saves
 by_cases h2:inR t p.base.tick (p.now.tick - 1)=true
 case neg =>
  rw [ZhX fun h=>h2 (Zae.2 ⟨h.2.1,by have:=h.2.2;omega⟩)] at hv ⊢
  rw [Bool.not_eq_true] at h2
  dsimp only [Option.getD_none,Option.isSome_none] at hv ⊢
  subst hv
  refine AC.go Tryz.func30 Tryz.ntmps30 fun B W hr=>?_
  dsimp only [pcR]
  repeat' (first|refine pa ?_|(refine pb ?_ ?_<;>intro hg)|(refine z9 ?_;(first|refine Zaa hpo ?_|refine Zaa ((Zah _ _ _)) ?_))|refine po ?_|fail)
  exact pfg
 have h3:=Zae.1 h2
 have hok:ZhY p t:=⟨h1,h3.1,by omega⟩
 obtain ⟨k,hk⟩:=Int.eq_ofNat_of_zero_le (show 0≤t - p.base.tick by omega)
 have hks:k < p.saves.length:=by omega
 have hlb:=Zj9 p k hks hp.saves hd
 dsimp only [pcR] at hlb
 have hb0:(Zbp p.base).length≤20000:=by have:=ZgG (w:=p.base);omega
 rw [Zk4 hok hk rfl] at hv ⊢
 rw [← hk] at hlb
 have hp2:=hp.base.1
 cases hb:Zba (Zbp p.base) (p.saves.take (k + 1)) with
 | none =>
  have hrw:=ZfR p.base.level [] hp2 (by show 0≤1073741824;omega) _ rfl
  generalize (Za2 p.base.level []).getD ZcB=z at hrw
  generalize (Za2 p.base.level []).isSome=zb at hrw
  rw [hb] at hv hlb
  dsimp only [Option.getD_none,Option.isSome_none,Option.bind_none] at hv hlb ⊢
  subst hv
  refine AC.go Tryz.func30 Tryz.ntmps30 fun B W hr=>?_
  dsimp only [pcR]
  repeat' (first|refine pa ?_|(refine pb ?_ ?_<;>intro hg)|(refine z9 ?_;(first|refine Zaa hpo ?_|refine Zaa ((Zah _ _ _)) ?_|refine Zaa hlb ?_|refine pz3 hrw ?_))|refine po ?_|fail)
  exact pfg
 | some tx =>
 have htl:=ZhA hb0 hb
 have hrw:=ZfR p.base.level tx hp2 (by omega) _ rfl
 rw [hb] at hv hlb
 rw [Option.bind_some] at hv ⊢
 dsimp only [Option.getD_some,Option.isSome_some] at hlb
 cases hr:Za2 p.base.level tx with
 | none =>
  rw [hr] at hrw
  rw [ZhT hr] at hv ⊢
  dsimp only [Option.getD_none,Option.isSome_none] at hv hrw ⊢
  subst hv
  refine AC.go Tryz.func30 Tryz.ntmps30 fun B W hr=>?_
  dsimp only [pcR]
  repeat' (first|refine pa ?_|(refine pb ?_ ?_<;>intro hg)|(refine z9 ?_;(first|refine Zaa hpo ?_|refine Zaa ((Zah _ _ _)) ?_|refine Zaa hlb ?_|refine pz3 hrw ?_))|refine po ?_|fail)
  exact pfg
 | some w =>
 have hwl:=Zal w.scores
 rw [hr] at hrw
 rw [ZhU hr] at hv ⊢
 dsimp only [Option.getD_some,Option.isSome_some] at hrw
 by_cases c1:w.tick=t
 case neg =>
  rw [if_neg fun e=>c1 e.1] at hv ⊢
  dsimp only [Option.getD_none,Option.isSome_none] at hv ⊢
  subst hv
  refine AC.go Tryz.func30 Tryz.ntmps30 fun B W hr=>?_
  dsimp only [pcR]
  repeat' (first|refine pa ?_|(refine pb ?_ ?_<;>intro hg)|(refine z9 ?_;(first|refine Zaa hpo ?_|refine Zaa ((Zah _ _ _)) ?_|refine Zaa hlb ?_|refine pz3 hrw ?_))|refine po ?_|fail)
  exact pfg
 by_cases c2:w.scores.length=p.tracks.length
 case neg =>
  rw [if_neg fun e=>c2 e.2] at hv ⊢
  dsimp only [Option.getD_none,Option.isSome_none] at hv ⊢
  subst hv
  refine AC.go Tryz.func30 Tryz.ntmps30 fun B W hr=>?_
  dsimp only [pcR]
  repeat' (first|refine pa ?_|(refine pb ?_ ?_<;>intro hg)|(refine z9 ?_;(first|refine Zaa hpo ?_|refine Zaa ((Zah _ _ _)) ?_|refine Zaa hlb ?_|refine pz3 hrw ?_))|refine po ?_|fail)
  exact pfg
 rw [if_pos ⟨c1,c2⟩] at hv ⊢
 dsimp only [Option.getD_some,Option.isSome_some] at hv ⊢
 subst hv
 refine AC.go Tryz.func30 Tryz.ntmps30 fun B W hr=>?_
 dsimp only [pcR]
 repeat' (first|refine pa ?_|(refine pb ?_ ?_<;>intro hg)|(refine z9 ?_;(first|refine Zaa hpo ?_|refine Zaa ((Zah _ _ _)) ?_|refine Zaa hlb ?_|refine pz3 hrw ?_))|refine po ?_|fail)
 exact pfg
theorem Ziy (p:Pr) (t:Int) (hp:Zeq p) (hd:Zc0 p) (v:Wd) (hv:v=(Zbn p t).getD ZcB):AC Tryz.prog 32 [.agg (pcR p),.t (.int .i64 t)] (.tup [.agg [.fr true 9 (Zai v.level),.t (.int .i64 v.tick),.t (.int .i64 v.seed),.fr true 3 (Zak v.scores),.fr true 114 (v.bodies.map bodyC)],.t (.bool (Zbn p t).isSome)]):=by
 have hpo:=Zgp p hp.tracks.1
 dsimp only [pcR] at hpo
 have htl0:(p.tracks.map trackC).length=p.tracks.length:=List.length_map _
 have hsl:(p.saves.map saveC).length=p.saves.length:=List.length_map _
 by_cases hok:ZhY p t
 case neg =>
  rw [ZhX hok] at hv ⊢
  dsimp only [Option.getD_none,Option.isSome_none] at hv ⊢
  subst hv
  by_cases h1:Zb9 p=true
  case neg =>
   rw [Bool.not_eq_true] at h1
   rw [h1] at hpo
   refine AC.go Tryz.func32 Tryz.ntmps32 fun B W hr=>?_
   dsimp only [pcR]
   repeat' (first|refine pa ?_|(refine pb ?_ ?_<;>intro hg)|(refine z9 ?_;(refine Zaa hpo ?_))|refine po ?_|fail)
   exact pfg
  rw [h1] at hpo
  by_cases h2:t < p.base.tick
  ·refine AC.go Tryz.func32 Tryz.ntmps32 fun B W hr=>?_
   dsimp only [pcR]
   repeat' (first|refine pa ?_|(refine pb ?_ ?_<;>intro hg)|(refine z9 ?_;(refine Zaa hpo ?_))|refine po ?_|fail)
   exact pfg
  ·have h3:¬ t - p.base.tick < (p.saves.length:Int):=fun h3=>hok ⟨h1,by omega,h3⟩
   have hbt:=(Zbq.1 h1).base.tick
   refine AC.go Tryz.func32 Tryz.ntmps32 fun B W hr=>?_
   dsimp only [pcR]
   obtain ⟨us,hus⟩:=hr
   have hti:=ZcJ (ZaR hus (i:=1) rfl)
   clear hus
   repeat' (first|refine pa ?_|(refine pb ?_ ?_<;>intro hg)|(refine z9 ?_;(refine Zaa hpo ?_))|refine po ?_|fail)
   exact pfg
 have hok2:=hok
 obtain ⟨h1,h2,h3⟩:=hok2
 rw [h1] at hpo
 have hbt:=(Zbq.1 h1).base.tick
 have hpv:=hp.saves
 obtain ⟨k,hk⟩:=Int.eq_ofNat_of_zero_le (show 0≤t - p.base.tick by omega)
 have hks:k < p.saves.length:=by omega
 have hwb:=Zii p.base
 have hb0:(Zbp p.base).length≤20000:=by have:=ZgG (w:=p.base);omega
 obtain ⟨xs,hxs⟩:∃ xs,xs=p.saves.take (k + 1):=⟨_,rfl⟩
 have hxl:xs.length=k + 1:=by rw [hxs,List.length_take];omega
 have hxm:(xs.map saveC).length=k + 1:=by rw [List.length_map,hxl]
 have hxd:∀ j,j < k + 1→(xs.getD j default).2.length≤1048576:=fun j hj=>by
  rw [hxs,getD_take hj]
  exact Zmt hd (by omega)
 have hsv:=Zk4 hok hk hxs
 rw [hsv] at hv ⊢
 generalize Zbp p.base=b0 at hwb hb0 hv ⊢
 have e1:List.take ((t - p.base.tick + 1).toNat - (0:Int).toNat) (List.drop (0:Int).toNat p.saves)=xs:=by rw [hk,hxs];rfl
 have hp2:=hp.base.1
 refine AC.go Tryz.func32 Tryz.ntmps32 fun B W hr=>?_
 dsimp only [pcR]
 repeat' (first|refine pa ?_|(refine pb ?_ ?_<;>intro hg)|(refine z9 ?_;(first|refine Zaa hpo ?_|refine Zaa hwb ?_))|refine po ?_|fail)
 rw [e1]
 refine aW.loopF rfl (fun q:Nat×List UInt8=>[(48,.t (.int .i64 q.1)),(6,.t (.str q.2))]) [(47,_),(46,_),(4,_),(2,_),(1,_)] (fun q=>[]) [(2,_,_),(4,_,_)] (fun q=>q.1≤k + 1∧Zba b0 (xs.take q.1)=some q.2) (fun q=>k + 1 - q.1) (0,b0) ⟨Nat.zero_le _,rfl⟩ (by (exact plei)) ?_
 rintro ⟨j,tx⟩ hI
 obtain ⟨hj,hb⟩:j≤k + 1∧Zba b0 (xs.take j)=some tx:=hI
 refine pln ?_
 by_cases hjk:j < k + 1
 ·have hst:=ZgO (b:=b0) (show j < xs.length by omega)
  rw [hb] at hst
  replace hst:Zba b0 (xs.take (j + 1))=Zar tx (xs.getD j default).2:=hst
  have had:=Zid tx (xs.getD j default).2 (hxd j hjk)
  cases ha:Zar tx (xs.getD j default).2 with
  | none =>
   rw [ha] at had hst
   rw [Zjr (by omega) hst] at hv ⊢
   dsimp only [Option.getD_none,Option.isSome_none,Option.bind_none] at hv had ⊢
   subst hv
   repeat' (first|refine pa ?_|(refine pb ?_ ?_<;>intro hg)|(refine z9 ?_;(refine Zaa had ?_))|refine po ?_|fail)
   exact pfg
  | some ty =>
   rw [ha] at had hst
   dsimp only [Option.getD_some,Option.isSome_some] at had
   repeat' (first|refine pa ?_|(refine pb ?_ ?_<;>intro hg)|(refine z9 ?_;(refine Zaa had ?_))|refine po ?_|fail)
   exact ⟨(j + 1,ty),⟨hjk,hst⟩,by show k + 1 - (j + 1) < k + 1 - j;omega,by (exact ple)⟩
 ·obtain rfl:j=k + 1:=by omega
  rw [← hxl,List.take_length] at hb
  have htl:=ZhA hb0 hb
  rw [hb] at hv ⊢
  rw [Option.bind_some] at hv ⊢
  have hrw:=Zi1 p.base.level tx hp2 (by omega) _ rfl
  cases hr:Za2 p.base.level tx with
  | none =>
   rw [hr] at hrw
   rw [ZhT hr] at hv ⊢
   dsimp only [Option.getD_none,Option.isSome_none] at hv hrw ⊢
   subst hv
   repeat' (first|refine pa ?_|(refine pb ?_ ?_<;>intro hg)|(refine z9 ?_;(refine pz3 hrw ?_))|refine po ?_|fail)
   exact pfg
  | some w =>
   have hwl:=Zal w.scores
   rw [hr] at hrw
   rw [ZhU hr] at hv ⊢
   dsimp only [Option.getD_some,Option.isSome_some] at hrw
   by_cases c1:w.tick=t
   case neg =>
    rw [if_neg fun e=>c1 e.1] at hv ⊢
    dsimp only [Option.getD_none,Option.isSome_none] at hv ⊢
    subst hv
    repeat' (first|refine pa ?_|(refine pb ?_ ?_<;>intro hg)|(refine z9 ?_;(refine pz3 hrw ?_))|refine po ?_|fail)
    exact pfg
   by_cases c2:w.scores.length=p.tracks.length
   case neg =>
    rw [if_neg fun e=>c2 e.2] at hv ⊢
    dsimp only [Option.getD_none,Option.isSome_none] at hv ⊢
    subst hv
    repeat' (first|refine pa ?_|(refine pb ?_ ?_<;>intro hg)|(refine z9 ?_;(refine pz3 hrw ?_))|refine po ?_|fail)
    exact pfg
   rw [if_pos ⟨c1,c2⟩] at hv ⊢
   dsimp only [Option.getD_some,Option.isSome_some] at hv ⊢
   subst hv
   repeat' (first|refine pa ?_|(refine pb ?_ ?_<;>intro hg)|(refine z9 ?_;(refine pz3 hrw ?_))|refine po ?_|fail)
   exact pfg
theorem Zvb (t:List Int) (first:Int) (ins:List Int) (ht:t.length≤1048576):AC Tryz.prog 158 [.agg [.t (ints 3 t)],.t (.int .i64 first),.t (ints 3 ins)]
  (.tup [.agg [.fr true 3 (Zak (Zka t first ins).1)],.t (.bool (Zka t first ins).2)]):=by
 have hct:=Zi3 t ht
 have hok:=Zhj t
 have hin:=ZfP ins
 by_cases hpre:ZaH t=true∧0≤first∧first≤t.length∧(ins.length:Int)≤400 - first∧Zbl ins=true
 ·obtain ⟨h1,h2,h3,h4,h5⟩:=hpre
  obtain ⟨f,rfl⟩:=Int.eq_ofNat_of_zero_le h2
  have hf:f≤t.length:=by omega
  have h400:=Zei h1
  have hpre2:Ztj t f ins=Zsq t f ins:=by
   unfold Ztj
   rw [h1,h5,decide_eq_true (show (0:Int)≤(f:Int)∧(f:Int)≤t.length from ⟨h2,h3⟩),decide_eq_true h4]
   simp
  rw [h1] at hok
  rw [h5] at hin
  refine AC.go Tryz.func158 Tryz.ntmps158 fun B W hr=>?_
  repeat' (first|refine pa ?_|(refine pb ?_ ?_<;>intro hg)|(refine z9 ?_;(first|refine Zaa hok ?_|refine Zaa hin ?_|refine pz3 hct ?_))|refine po ?_|fail)
  refine aW.loopF rfl (fun q:Nat×Nat×List Int=>[(42,.t (.int .i64 q.1))]) [(41,_),(40,_),(1,_),(3,_),(6,_),(8,_)] (fun q=>[(8,1,.box 46 [.hnd 12000 q.2.1]),(12000,q.2.1,.row true true 3 (Zak q.2.2))]) [(3,_,_),(6,_,_)] (fun q=>q.1≤ins.length∧q.2.2=Zsl t f (ins.take q.1)∧Zsq t f (ins.take q.1)=true) (fun q=>ins.length - q.1) (0,1,t) ⟨Nat.zero_le _,(Zuk t f).symm,ZtV t f⟩ (by (exact plei)) ?_
  rintro ⟨k,ep,zs⟩ hI
  obtain ⟨hk,hz,ha⟩:k≤ins.length∧zs=Zsl t f (ins.take k)∧Zsq t f (ins.take k)=true:=hI
  subst hz
  have hel2:(Zsl t f (ins.take k)).length≤400:=by rw [ZsF hf,List.length_take];omega
  have hel:(Zak (Zsl t f (ins.take k))).length=(Zsl t f (ins.take k)).length:=Zal _
  refine pln ?_
  by_cases hkn:k < ins.length
  ·by_cases hft:f + k < t.length
   ·by_cases hx:t.getD (f + k) default=ins.getD k default
    ·repeat' (first|refine pa ?_|(refine pb ?_ ?_<;>intro hg)|refine po ?_|fail)
     have hd:Zsl t f (ins.take (k + 1))=Zsl t f (ins.take k):=by rw [Ztl hkn hf,if_pos hft]
     exact ⟨(k + 1,ep,Zsl t f (ins.take k)),⟨hkn,hd.symm,ZsQ hkn ha fun h=>by rwa [← Zb6 hft,← Zb6 hkn]⟩,by show ins.length - (k + 1) < ins.length - k;omega,by (exact ple)⟩
    ·have hno:Zka t f ins=(t,false):=by
      rw [Zka,if_neg]
      rw [hpre2,ZtW hkn hft (by rwa [← Zb6 hft,← Zb6 hkn])]
      decide
     rw [hno]
     repeat' (first|refine pa ?_|(refine pb ?_ ?_<;>intro hg)|(refine z9 ?_;(refine pz3 hct ?_))|refine po ?_|fail)
     exact pfg
   ·repeat' (first|refine pa ?_|(refine pb ?_ ?_<;>intro hg)|refine po ?_|fail)
    exact ⟨(k + 1,ep + 1,Zsl t f (ins.take (k + 1))),⟨hkn,rfl,ZsQ hkn ha fun h=>absurd h hft⟩,by show ins.length - (k + 1) < ins.length - k;omega,by rw [Zuj hkn hf hft];(exact ple)⟩
  ·have hk':k=ins.length:=by omega
   subst hk'
   rw [List.take_length] at ha
   have hyes:Zka t f ins=(Zsl t f ins,true):=by
    rw [Zka,if_pos (hpre2.trans ha)]
    rfl
   rw [hyes]
   repeat' (first|refine pa ?_|(refine pb ?_ ?_<;>intro hg)|refine po ?_|fail)
   rw [List.take_length]
   exact pfg
 ·have hno:Zka t first ins=(t,false):=by
   rw [Zka,if_neg]
   intro hc
   unfold Ztj at hc
   simp only [Bool.and_eq_true,decide_eq_true_eq] at hc
   exact hpre ⟨hc.1.1.1.1,hc.1.1.1.2.1,hc.1.1.1.2.2,hc.1.1.2,hc.1.2⟩
  rw [hno]
  refine AC.go Tryz.func158 Tryz.ntmps158 fun B W hr=>?_
  obtain ⟨us,hus⟩:=hr
  have hl1:=ZcJ (ZaR hus (i:=1) rfl)
  have hl2:=(Zga (ZaR hus (i:=2) rfl)).1
  clear hus
  repeat' (first|refine pa ?_|(refine pb ?_ ?_<;>intro hg)|(refine z9 ?_;(first|refine Zaa hok ?_|refine Zaa hin ?_|refine pz3 hct ?_))|refine po ?_|fail)
  all_goals first
   | (refine pfin ?_;(exact pgiv);done)
   | (exfalso;simp only [Bool.not_eq_true',Bool.not_eq_false',Bool.not_eq_true,Bool.not_eq_false] at *;exact hpre ⟨by assumption,by omega,by omega,by omega,by assumption⟩)
theorem Zu9 (ts:TS) (fr tk fs stk sm tm ec:Int) (ins acks:List Int) (hn:ts.length≤1048576) (hx:∀ k,k < ts.length→(ts.getD k default).length≤1048576):AC Tryz.prog 73 [.t (.lst false 46 (ts.map trackC)),.agg [.t (.int .i64 fr),.t (.int .i64 tk),.t (.int .i64 fs),.t (ints 3 ins),.t (ints 3 acks),.t (.int .i64 stk),.t (.int .i64 sm),.t (.int .i64 tm),.t (.int .i64 ec)]]
  (.tup [.fr false 46 ((ZtB ts fr tk fs ins acks stk sm tm ec).1.map trackC),.t (.bool (ZtB ts fr tk fs ins acks stk sm tm ec).2)]):=by
 have hct:=Zij ts hn hx
 have hto:=Zds ts
 have hpo:=ZtC fr tk fs stk sm tm ec ins acks
 by_cases hpre:Zan ts=true∧ZhP fr tk fs ins acks stk sm tm ec=true∧acks.length=ts.length
 ·have hT:ZtB ts fr tk fs ins acks stk sm tm ec=if (Zka (ts.getD fr.toNat default) fs ins).2=true then (ts.set fr.toNat (Zka (ts.getD fr.toNat default) fs ins).1,true) else (ts,false):=if_pos hpre
  obtain ⟨h1,h2,h3⟩:=hpre
  obtain ⟨q1,q2,q3,q4,q5,q6,q7,q8⟩:=Zsy h2
  rw [h1] at hto
  rw [h2] at hpo
  obtain ⟨f,rfl⟩:=Int.eq_ofNat_of_zero_le q3
  have hf:f < ts.length:=by omega
  have hai:=Zvb (ts.getD f default) fs ins (hx f hf)
  rw [Int.toNat_natCast] at hT
  by_cases hb:(Zka (ts.getD f default) fs ins).2=true
  ·rw [if_pos hb] at hT
   rw [hb] at hai
   rw [hT]
   generalize (Zka (ts.getD f default) fs ins).1=nw at hai hT
   have hms:(ts.set f nw).map trackC=(ts.map trackC).set f [.lst true 3 (Zak nw)]:=by rw [List.map_set];rfl
   dsimp only
   rw [hms]
   refine AC.go Tryz.func73 Tryz.ntmps73 fun B W hr=>?_
   repeat' (first|refine pa ?_|(refine pb ?_ ?_<;>intro hg)|refine Zvh ?_|(refine z9 ?_;(first|refine Zaa hto ?_|refine Zaa hpo ?_|refine pz3 hct ?_|refine pz3 hai ?_))|refine po ?_|(refine T35d2 ?_)|fail)
   exact pfg
  ·rw [if_neg hb] at hT
   rw [Bool.not_eq_true] at hb
   rw [hb] at hai
   rw [hT]
   refine AC.go Tryz.func73 Tryz.ntmps73 fun B W hr=>?_
   repeat' (first|refine pa ?_|(refine pb ?_ ?_<;>intro hg)|refine Zvh ?_|(refine z9 ?_;(first|refine Zaa hto ?_|refine Zaa hpo ?_|refine pz3 hct ?_|refine pz3 hai ?_))|refine po ?_|(refine T35d2 ?_)|fail)
   exact pfg
 ·have hT:ZtB ts fr tk fs ins acks stk sm tm ec=(ts,false):=if_neg hpre
  rw [hT]
  refine AC.go Tryz.func73 Tryz.ntmps73 fun B W hr=>?_
  repeat' (first|refine pa ?_|(refine pb ?_ ?_<;>intro hg)|(refine z9 ?_;(first|refine Zaa hto ?_|refine Zaa hpo ?_|refine pz3 hct ?_))|refine po ?_|fail)
  all_goals first
   | (refine pfin ?_;(exact pgiv);done)
   | (exfalso;simp only [Bool.not_eq_true',Bool.not_eq_false',Bool.not_eq_true,Bool.not_eq_false,decide_eq_true_eq] at *;exact hpre ⟨by assumption,by assumption,by omega⟩)
end Go.Proofs.YthfaongbpdnlnaaGreat
