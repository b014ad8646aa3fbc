/- What is proved: contracts on the confirmed world that is played again, program and reference alike.
   Conditions: the peer's lists can be walked. -/
import Derived.Test.YthfaongbpdnlnaaGreatAbsVf
import Derived.Test.YthfaongbpdnlnaaGreatT87i
namespace Go.Proofs.YthfaongbpdnlnaaGreat
set_option maxHeartbeats 4000000
set_option maxRecDepth 20000
set_option linter.unusedSimpArgs false
set_option linter.unusedVariables false
open Go.RowKit Ab
theorem ZnP (ts:TS) (a:Int) (n:Nat):(Zbr ts a (n + 1)).map trackC=(Zbr ts a n).map trackC++[[.lst true 3 (Zak (rowV ts (a + (n:Int))).1)]]:=by
 rw [Zbr,List.range_succ,List.map_append,List.map_append]
 rfl
def ZoV (ts:TS) (a b:Int):TS:=if Zan ts=false∨a < 0∨Zbe ts < b then [] else Zbr ts a (b - a).toNat
theorem Znr (ts:TS) (a b:Int):AC Tryz.prog 126 [.t (.lst false 46 (ts.map trackC)),.t (.int .i64 a),.t (.int .i64 b)] (.fr false 27 ((ZoV ts a b).map trackC)):=by
 have hto:=Zds ts
 have hkt:=ZdB ts
 have hkl:=Zg5 (ts:=ts)
 by_cases h1:Zan ts=false∨a < 0∨Zbe ts < b
 ·rw [show ZoV ts a b=[] from if_pos h1]
  refine AC.go Tryz.func126 Tryz.ntmps126 fun B W hr=>?_
  repeat' (first|refine pa ?_|(refine pb ?_ ?_<;>intro hg)|(refine Zab (n:=20) ?_;(first|refine Zaa hto ?_|refine Zaa hkt ?_))|refine po ?_|fail)
  all_goals first
   | (refine pfin ?_;(exact pgiv);done)
   | (exfalso;rcases h1 with h1|h1|h1<;>simp_all<;>omega)
 ·have hok:Zan ts=true:=by cases h:Zan ts<;>simp_all
  have h3:0≤a:=by omega
  have h4:b≤Zbe ts:=by omega
  rw [show ZoV ts a b=Zbr ts a (b - a).toNat from if_neg h1]
  rw [hok] at hto
  refine AC.go Tryz.func126 Tryz.ntmps126 fun B W hr=>?_
  repeat' (first|refine pa ?_|(refine pb ?_ ?_<;>intro hg)|(refine Zab (n:=20) ?_;(first|refine Zaa hto ?_|refine Zaa hkt ?_))|refine po ?_|fail)
  refine aW.nilrow (s:=7) (i:=500) false 27 rfl rfl ?_
  refine aW.loopF rfl (fun q:Nat×Int×Nat×List (List T)=>[(8,.t (.int .i64 q.2.1)),(7,.hnd 500 q.2.2.1)]) [(2,_),(0,_)] (fun q=>[(500,q.2.2.1,.row false true 27 q.2.2.2)]) [] (fun q=>q.2.1=a + q.1∧q.1≤(b - a).toNat∧q.2.2.2=(Zbr ts a q.1).map trackC) (fun q=>(b - a).toNat - q.1) (0,a,1,[]) ⟨(Int.add_zero a).symm,Nat.zero_le _,rfl⟩ (by (exact plei)) ?_
  rintro ⟨k,v,ep,els⟩ hI
  obtain ⟨hv,hk,he⟩:v=a + k∧k≤(b - a).toNat∧els=(Zbr ts a k).map trackC:=hI
  subst he
  have hel2:(Zbr ts a k).length=k:=by simp [Zbr]
  have hel:((Zbr ts a k).map trackC).length=k:=by rw [List.length_map,hel2]
  refine pln ?_
  by_cases hkn:k < (b - a).toNat
  ·have hr2:=ZjX ts v
   rw [hv] at hr2
   have hvb:a + (k:Int) < b:=by omega
   subst hv
   repeat' (first|refine pa ?_|(refine pb ?_ ?_<;>intro hg)|(refine Zab (n:=20) ?_;(first|refine pz3 hr2 ?_))|refine po ?_|fail)
   exact ⟨(k + 1,a + (k:Int) + 1,ep + 1,_),⟨by show a + (k:Int) + 1=a + ((k + 1:Nat):Int);omega,hkn,(ZnP ts a k).symm⟩,by show (b - a).toNat - (k + 1) < (b - a).toNat - k;omega,by (exact ple)⟩
  ·have hk':k=(b - a).toNat:=by omega
   subst hk'
   subst hv
   repeat' (first|refine pa ?_|(refine pb ?_ ?_<;>intro hg)|refine po ?_|fail)
   exact pfg
theorem Zp8 {ts:TS} (h:Zan ts=true) {b:Int} (hb:0≤b) {n:Nat}:∀ r ∈ Zbr ts b n,ZbD r ts.length=true:=by
 intro r hr
 obtain ⟨k,hk,rfl⟩:=List.mem_iff_getElem.1 hr
 rw [Zdk] at hk
 have:=ZgF (ts:=ts) (b:=b) hk
 rw [List.getD_eq_getElem?_getD,List.getElem?_eq_getElem (by rw [Zdk];exact hk)] at this
 replace this:(Zbr ts b n)[k]=(rowV ts (b + k)).1:=this
 rw [this]
 exact Zr7 h (by omega)
noncomputable def Zbx (p:Pr) (t:Int):Option Wd:=if Zg8 p t then some (runF p.ft p.fp p.fa (ZeI p.base.level p.tracks.length p.seed) (Zbr p.tracks 0 t.toNat)) else none
theorem Zg7 {p:Pr} (h:Zic p):Zer p.base.level p.tracks.length p.seed:=by
 have:=Zbi h.tracks
 exact ⟨h.base.level,by omega,h.seed⟩
theorem ZnJ {p:Pr} (h:Zic p):ZeI p.base.level p.tracks.length p.seed=newV p.base.level p.tracks.length p.seed:=by
 rw [ZeI,if_pos (Zg7 h),Int.toNat_natCast]
theorem ZhW {p:Pr} {t:Int} (h:Zic p) (h0:0≤t) (ht:t≤Zbe p.tracks):ZoV p.tracks 0 t=Zbr p.tracks 0 t.toNat:=by
 unfold ZoV
 rw [if_neg (by rw [h.tracks];simp;omega),Int.sub_zero]
theorem ZfB {p:Pr} (h:Zic p) (k:Nat) (hk:k≤400):ZaV (runF p.ft p.fp p.fa (ZeI p.base.level p.tracks.length p.seed) (Zbr p.tracks 0 k)):=by
 have ho:=Zg7 h
 have hn:=Zbi h.tracks
 have hwp:ZaV (newV p.base.level p.tracks.length p.seed):=ZtK ho.1 hn ho.2.2
 rw [ZnJ h]
 exact (ZoW (n:=p.tracks.length) hwp List.length_replicate (Zp8 h.tracks (Int.le_refl _)) (by rw [Zdk];show (0:Int) + (k:Int)≤100000;omega)).1
theorem Zk3 {t p a:Int} {w:Wd} {ts:TS} {b:Int} {k:Nat}:runF t p a w (Zbr ts b (k + 1))=ZbA (ZbY (runF t p a w (Zbr ts b k)) (rowV ts (b + k)).1) (runF t p a w (Zbr ts b k)) t p a:=by
 rw [ZnO,Zm1]
 rfl
theorem ZjW (p:Pr) (t:Int) (hp:Zeq p) (hd:Zc0 p) (v:Wd) (hv:v=(Zbx p t).getD ZcB):AC Tryz.prog 42 [.agg [.t (.int .i64 p.me),.t (.int .i64 p.delay),.t (.int .i64 p.ahead),.t (.int .i64 p.seed),.t (.lst false 46 (p.tracks.map trackC)),.t (.lst true 9 (Zai p.base.level)),.t (.int .i64 p.base.tick),.t (.int .i64 p.base.seed),.t (ints 3 p.base.scores),.t (.lst true 114 (p.base.bodies.map bodyC)),.t (.lst true 9 (Zai p.now.level)),.t (.int .i64 p.now.tick),.t (.int .i64 p.now.seed),.t (ints 3 p.now.scores),.t (.lst true 114 (p.now.bodies.map bodyC)),.t (.lst false 27 (p.used.map trackC)),.t (.lst true 100 (p.saves.map saveC)),.t (ints 3 p.sums),.t (.int .i64 p.ft),.t (.int .i64 p.fp),.t (.int .i64 p.fa),.t (.int .i64 p.rolls),.t (.int .i64 p.again)],.t (.int .i64 t)] (.tup [.agg [.fr true 9 (Zai v.level),.t (.int .i64 v.tick),.t (.int .i64 v.seed),.fr true 3 (Zak v.scores),.fr true 114 (v.bodies.map bodyC)],.t (.bool (Zbx p t).isSome)]):=by
 have hpo:=Zgp p hp.tracks.1
 have hkt:=ZdB p.tracks
 have htl0:(p.tracks.map trackC).length=p.tracks.length:=List.length_map _
 have hinb:inR t 0 (Zbe p.tracks)=decide (0≤t∧t≤Zbe p.tracks):=by
  by_cases h:0≤t∧t≤Zbe p.tracks
  ·rw [decide_eq_true h];exact Zae.2 h
  ·rw [decide_eq_false h];exact Zb3 fun e=>h e
 by_cases hok:Zg8 p t
 case neg =>
  rw [show Zbx p t=none from if_neg hok] at hv ⊢
  dsimp only [Option.getD_none,Option.isSome_none] at hv ⊢
  subst hv
  by_cases h1:Zb9 p=true
  case neg =>
   rw [Bool.not_eq_true] at h1
   rw [h1] at hpo
   refine AC.go Tryz.func42 Tryz.ntmps42 fun B W hr=>?_
   repeat' (first|refine pa ?_|(refine pb ?_ ?_<;>intro hg)|(refine Zab (n:=20) ?_;(first|refine Zaa hpo ?_))|refine po ?_|fail)
   exact pfg
  rw [h1] at hpo
  by_cases h2:0≤t
  case neg =>
   rw [decide_eq_false fun e=>h2 e.1] at hinb
   refine AC.go Tryz.func42 Tryz.ntmps42 fun B W hr=>?_
   repeat' (first|refine pa ?_|(refine pb ?_ ?_<;>intro hg)|(refine Zab (n:=20) ?_;(first|refine Zaa hpo ?_|refine Zaa hkt ?_|refine Zaa ((Zah _ _ _)) ?_))|refine po ?_|fail)
   exact pfg
  have h3:¬ t≤Zbe p.tracks:=fun h3=>hok ⟨h1,h2,h3⟩
  rw [decide_eq_false fun e=>h3 e.2] at hinb
  refine AC.go Tryz.func42 Tryz.ntmps42 fun B W hr=>?_
  repeat' (first|refine pa ?_|(refine pb ?_ ?_<;>intro hg)|(refine Zab (n:=20) ?_;(first|refine Zaa hpo ?_|refine Zaa hkt ?_|refine Zaa ((Zah _ _ _)) ?_))|refine po ?_|fail)
  exact pfg
 have hok2:=hok
 obtain ⟨h1,h2,h3⟩:=hok2
 rw [decide_eq_true ⟨h2,h3⟩] at hinb
 rw [h1] at hpo
 have hpp:=Zbq.1 h1
 obtain ⟨n,rfl⟩:=Int.eq_ofNat_of_zero_le h2
 have hkl:=Zg5 (ts:=p.tracks)
 have hnw:=ZjT p.base.level p.tracks.length p.seed hp.base.1 _ rfl
 rw [decide_eq_true (Zg7 hpp)] at hnw
 have hpart:=ZfB hpp
 have hrr:=ZhW hpp h2 h3
 rw [Int.toNat_natCast] at hrr
 rw [show Zbx p n=some (runF p.ft p.fp p.fa (ZeI p.base.level p.tracks.length p.seed) (Zbr p.tracks 0 n)) from (if_pos hok).trans (by rw [Int.toNat_natCast])] at hv ⊢
 dsimp only [Option.getD_some,Option.isSome_some] at hv ⊢
 generalize ZeI p.base.level p.tracks.length p.seed=w0 at hnw hpart hv
 have hrs:∀ k,k < n→(Zbr p.tracks 0 n).getD k default=(rowV p.tracks k).1:=fun k hk=>by rw [ZgF hk,Int.zero_add]
 have hnl:((Zbr p.tracks 0 n).map trackC).length=n:=by rw [List.length_map,Zdk]
 have hnl2:(Zbr p.tracks 0 n).length=n:=Zdk _ _ _
 have hro:=Znr p.tracks 0 n
 rw [hrr] at hro
 refine AC.go Tryz.func42 Tryz.ntmps42 fun B W hr=>?_
 repeat' (first|refine pa ?_|(refine pb ?_ ?_<;>intro hg)|(refine Zab (n:=20) ?_;(first|refine Zaa hpo ?_|refine Zaa hkt ?_|refine Zaa ((Zah _ _ _)) ?_|refine pz3 hnw ?_|refine Zc5 hro ?_))|refine po ?_|fail)
 refine aW.ghost (Zco.renameC (b:=6) (c:=0) (o:=34000) (j:=53000) (ej:=1) rfl rfl rfl rfl rfl rfl rfl rfl) ?_
 refine aW.ghost (Zco.renameC (b:=6) (c:=3) (o:=34003) (j:=53003) (ej:=1) rfl rfl rfl rfl rfl rfl rfl rfl) ?_
 refine aW.ghost (Zco.renameC (b:=6) (c:=4) (o:=34004) (j:=53004) (ej:=1) rfl rfl rfl rfl rfl rfl rfl rfl) ?_
 dsimp only [List.set]
 refine aW.loopF rfl (fun q:Nat×Wd×Nat=>[(45,.t (.int .i64 q.1))]) [(44,_),(43,_),(6,_),(4,_),(2,_),(1,_)] (fun q=>[(6,1,.box 30 [.hnd 53000 q.2.2,.t (.int .i64 q.2.1.tick),.t (.int .i64 q.2.1.seed),.hnd 53003 q.2.2,.hnd 53004 q.2.2]),(53000,q.2.2,.row true true 9 (Zai q.2.1.level)),(53003,q.2.2,.row true true 3 (Zak q.2.1.scores)),(53004,q.2.2,.row true true 114 (q.2.1.bodies.map bodyC))]) [(2,_,_),(4,_,_)] (fun q=>q.1≤n∧q.2.1=runF p.ft p.fp p.fa w0 (Zbr p.tracks 0 q.1)) (fun q=>n - q.1) (0,w0,1) ⟨Nat.zero_le _,rfl⟩ (by (exact plei)) ?_
 rintro ⟨k,w,ep⟩ hI
 obtain ⟨hk,hw⟩:k≤n∧w=runF p.ft p.fp p.fa w0 (Zbr p.tracks 0 k):=hI
 have hwp:ZaV w:=by rw [hw];exact hpart k (by omega)
 obtain ⟨l1,l2,l3⟩:=Zee hwp
 refine pln ?_
 by_cases hkn:k < n
 ·have hrk:=hrs k hkn
  have hra:=ZjX p.tracks (k:Int)
  rw [← hrk] at hra
  have hfs:=Zif w ((Zbr p.tracks 0 n).getD k default) p.ft p.fp p.fa l1 l2 l3 _ rfl
  have hnx:ZbA (ZbY w ((Zbr p.tracks 0 n).getD k default)) w p.ft p.fp p.fa=runF p.ft p.fp p.fa w0 (Zbr p.tracks 0 (k + 1)):=by rw [Zk3,← hw,hrk,Int.zero_add]
  generalize ZbA (ZbY w ((Zbr p.tracks 0 n).getD k default)) w p.ft p.fp p.fa=w2 at hfs hnx
  clear hw hwp hpart hrs hrk
  repeat' (first|refine pa ?_|(refine pb ?_ ?_<;>intro hg)|(refine Zab (n:=20) ?_;(first|refine Zc5 hra ?_|refine pz3 hfs ?_))|refine po ?_|fail)
  exact ⟨(k + 1,w2,ep + 1),⟨hkn,hnx⟩,by show n - (k + 1) < n - k;omega,by (exact ple)⟩
 ·obtain rfl:k=n:=by omega
  rw [← hw] at hv
  subst hv
  repeat' (first|refine pa ?_|(refine pb ?_ ?_<;>intro hg)|refine po ?_|fail)
  exact pfg
end Go.Proofs.YthfaongbpdnlnaaGreat
