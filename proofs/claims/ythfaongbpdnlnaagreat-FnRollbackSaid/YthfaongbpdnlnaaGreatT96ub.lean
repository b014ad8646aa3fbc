/- What is proved: contracts on the worlds that a peer has saved, program and reference alike.
   Conditions: the peer's lists and differences can be walked. -/
import Derived.Test.YthfaongbpdnlnaaGreatT99bi
import Derived.Test.YthfaongbpdnlnaaGreatT102
namespace Go.Proofs.YthfaongbpdnlnaaGreat
set_option maxHeartbeats 4000000
set_option maxRecDepth 20000
set_option linter.unusedSimpArgs false
set_option linter.unusedVariables false
open Go.RowKit Ab
theorem Ziy (p:Pr) (t:Int) (hp:Zeq p) (hd:Zc0 p) (v:Wd) (hv:v=(Zbn p t).getD ZcB):AC Tryz.prog 32 [.agg [.t (.int .i64 p.me),.t (.int .i64 p.delay),.t (.int .i64 p.ahead),.t (.int .i64 p.seed),.t (.lst false 46 (p.tracks.map trackC)),.t (.lst true 9 (Zai p.base.level)),.t (.int .i64 p.base.tick),.t (.int .i64 p.base.seed),.t (ints 3 p.base.scores),.t (.lst true 114 (p.base.bodies.map bodyC)),.t (.lst true 9 (Zai p.now.level)),.t (.int .i64 p.now.tick),.t (.int .i64 p.now.seed),.t (ints 3 p.now.scores),.t (.lst true 114 (p.now.bodies.map bodyC)),.t (.lst false 27 (p.used.map trackC)),.t (.lst true 100 (p.saves.map saveC)),.t (ints 3 p.sums),.t (.int .i64 p.ft),.t (.int .i64 p.fp),.t (.int .i64 p.fa),.t (.int .i64 p.rolls),.t (.int .i64 p.again)],.t (.int .i64 t)] (.tup [.agg [.fr true 9 (Zai v.level),.t (.int .i64 v.tick),.t (.int .i64 v.seed),.fr true 3 (Zak v.scores),.fr true 114 (v.bodies.map bodyC)],.t (.bool (Zbn p t).isSome)]):=by
 have hpo:=Zgp p hp.tracks.1
 have htl0:(p.tracks.map trackC).length=p.tracks.length:=List.length_map _
 have hsl:(p.saves.map saveC).length=p.saves.length:=List.length_map _
 by_cases hok:ZhY p t
 case neg =>
  rw [ZhX hok] at hv ⊢
  dsimp only [Option.getD_none,Option.isSome_none] at hv ⊢
  subst hv
  by_cases h1:Zb9 p=true
  case neg =>
   rw [Bool.not_eq_true] at h1
   rw [h1] at hpo
   refine AC.go Tryz.func32 Tryz.ntmps32 fun B W hr=>?_
   repeat' (first|refine pa ?_|(refine pb ?_ ?_<;>intro hg)|(refine pz9 ?_;(first|refine Zaa hpo ?_))|refine po ?_|fail)
   exact pfg
  rw [h1] at hpo
  by_cases h2:t < p.base.tick
  ·refine AC.go Tryz.func32 Tryz.ntmps32 fun B W hr=>?_
   repeat' (first|refine pa ?_|(refine pb ?_ ?_<;>intro hg)|(refine pz9 ?_;(first|refine Zaa hpo ?_))|refine po ?_|fail)
   exact pfg
  ·have h3:¬ t - p.base.tick < (p.saves.length:Int):=fun h3=>hok ⟨h1,by omega,h3⟩
   have hbt:=(Zbq.1 h1).base.tick
   refine AC.go Tryz.func32 Tryz.ntmps32 fun B W hr=>?_
   obtain ⟨us,hus⟩:=hr
   have hti:=ZcJ (ZaR hus (i:=1) rfl)
   clear hus
   repeat' (first|refine pa ?_|(refine pb ?_ ?_<;>intro hg)|(refine pz9 ?_;(first|refine Zaa hpo ?_))|refine po ?_|fail)
   exact pfg
 have hok2:=hok
 obtain ⟨h1,h2,h3⟩:=hok2
 rw [h1] at hpo
 have hbt:=(Zbq.1 h1).base.tick
 have hpv:=hp.saves
 obtain ⟨k,hk⟩:=Int.eq_ofNat_of_zero_le (show 0≤t - p.base.tick by omega)
 have hks:k < p.saves.length:=by omega
 have hwb:=Zii p.base
 have hb0:(Zbp p.base).length≤20000:=by have:=ZgG (w:=p.base);omega
 obtain ⟨xs,hxs⟩:∃ xs,xs=p.saves.take (k + 1):=⟨_,rfl⟩
 have hxl:xs.length=k + 1:=by rw [hxs,List.length_take];omega
 have hxm:(xs.map saveC).length=k + 1:=by rw [List.length_map,hxl]
 have hxd:∀ j,j < k + 1→(xs.getD j default).2.length≤1048576:=fun j hj=>by
  rw [hxs,getD_take hj]
  exact Zmt hd (by omega)
 have hsv:=Zk4 hok hk hxs
 rw [hsv] at hv ⊢
 generalize Zbp p.base=b0 at hwb hb0 hv ⊢
 have e1:List.take ((t - p.base.tick + 1).toNat - (0:Int).toNat) (List.drop (0:Int).toNat p.saves)=xs:=by rw [hk,hxs];rfl
 have hp2:=hp.base.1
 refine AC.go Tryz.func32 Tryz.ntmps32 fun B W hr=>?_
 repeat' (first|refine pa ?_|(refine pb ?_ ?_<;>intro hg)|(refine pz9 ?_;(first|refine Zaa hpo ?_|refine Zaa hwb ?_))|refine po ?_|fail)
 rw [e1]
 refine aW.loopF rfl (fun q:Nat×List UInt8=>[(48,.t (.int .i64 q.1)),(6,.t (.str q.2))]) [(47,_),(46,_),(4,_),(2,_),(1,_)] (fun q=>[]) [(2,_,_),(4,_,_)] (fun q=>q.1≤k + 1∧Zba b0 (xs.take q.1)=some q.2) (fun q=>k + 1 - q.1) (0,b0) ⟨Nat.zero_le _,rfl⟩ (by (exact plei)) ?_
 rintro ⟨j,tx⟩ hI
 obtain ⟨hj,hb⟩:j≤k + 1∧Zba b0 (xs.take j)=some tx:=hI
 refine pln ?_
 by_cases hjk:j < k + 1
 ·have hst:=ZgO (b:=b0) (show j < xs.length by omega)
  rw [hb] at hst
  replace hst:Zba b0 (xs.take (j + 1))=Zar tx (xs.getD j default).2:=hst
  have had:=Zid tx (xs.getD j default).2 (hxd j hjk)
  cases ha:Zar tx (xs.getD j default).2 with
  | none =>
   rw [ha] at had hst
   rw [Zjr (by omega) hst] at hv ⊢
   dsimp only [Option.getD_none,Option.isSome_none,Option.bind_none] at hv had ⊢
   subst hv
   repeat' (first|refine pa ?_|(refine pb ?_ ?_<;>intro hg)|(refine pz9 ?_;(first|refine Zaa had ?_))|refine po ?_|fail)
   exact pfg
  | some ty =>
   rw [ha] at had hst
   dsimp only [Option.getD_some,Option.isSome_some] at had
   repeat' (first|refine pa ?_|(refine pb ?_ ?_<;>intro hg)|(refine pz9 ?_;(first|refine Zaa had ?_))|refine po ?_|fail)
   exact ⟨(j + 1,ty),⟨hjk,hst⟩,by show k + 1 - (j + 1) < k + 1 - j;omega,by (exact ple)⟩
 ·obtain rfl:j=k + 1:=by omega
  rw [← hxl,List.take_length] at hb
  have htl:=ZhA hb0 hb
  rw [hb] at hv ⊢
  rw [Option.bind_some] at hv ⊢
  have hrw:=Zi1 p.base.level tx hp2 (by omega) _ rfl
  cases hr:Za2 p.base.level tx with
  | none =>
   rw [hr] at hrw
   rw [ZhT hr] at hv ⊢
   dsimp only [Option.getD_none,Option.isSome_none] at hv hrw ⊢
   subst hv
   repeat' (first|refine pa ?_|(refine pb ?_ ?_<;>intro hg)|(refine pz9 ?_;(first|refine pz3 hrw ?_))|refine po ?_|fail)
   exact pfg
  | some w =>
   have hwl:=Zal w.scores
   rw [hr] at hrw
   rw [ZhU hr] at hv ⊢
   dsimp only [Option.getD_some,Option.isSome_some] at hrw
   by_cases c1:w.tick=t
   case neg =>
    rw [if_neg fun e=>c1 e.1] at hv ⊢
    dsimp only [Option.getD_none,Option.isSome_none] at hv ⊢
    subst hv
    repeat' (first|refine pa ?_|(refine pb ?_ ?_<;>intro hg)|(refine pz9 ?_;(first|refine pz3 hrw ?_))|refine po ?_|fail)
    exact pfg
   by_cases c2:w.scores.length=p.tracks.length
   case neg =>
    rw [if_neg fun e=>c2 e.2] at hv ⊢
    dsimp only [Option.getD_none,Option.isSome_none] at hv ⊢
    subst hv
    repeat' (first|refine pa ?_|(refine pb ?_ ?_<;>intro hg)|(refine pz9 ?_;(first|refine pz3 hrw ?_))|refine po ?_|fail)
    exact pfg
   rw [if_pos ⟨c1,c2⟩] at hv ⊢
   dsimp only [Option.getD_some,Option.isSome_some] at hv ⊢
   subst hv
   repeat' (first|refine pa ?_|(refine pb ?_ ?_<;>intro hg)|(refine pz9 ?_;(first|refine pz3 hrw ?_))|refine po ?_|fail)
   exact pfg
end Go.Proofs.YthfaongbpdnlnaaGreat
