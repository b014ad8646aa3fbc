/- What is proved: the statement FnRollback: however late and in whatever pieces a peer learns what others press, its confirmed world is the lockstep world, and its present world is the one that its predictions give from there.
   Conditions: none. -/
import Derived.Test.YthfaongbpdnlnaaGreatT87i
import Derived.Test.YthfaongbpdnlnaaGreatT29ub
import Derived.Test.YthfaongbpdnlnaaGreatT103uc
import Derived.Test.YthfaongbpdnlnaaGreatT85ub
namespace Go.Proofs.YthfaongbpdnlnaaGreat.Ab
set_option maxHeartbeats 4000000
set_option maxRecDepth 100000
set_option linter.unusedSimpArgs false
set_option linter.unusedVariables false
open Go.RowKit
section
variable {P:Program} {B:Nat→Prop} {W:En} {st:St} {a:Act} {w:World} {Q:Exit→St→Prop}
theorem Zco.share {o ep:Nat} {fl:Bool} {e:TypeId} {els:List (List T)} (hl:look st.objs o=some (ep,.row fl true e els)) :
  Zco P B W st (st.upds [(o,ep,.row fl false e els)]):=fun a w ⟨pl,F,hs⟩=>by
 have hlo:look (updl st.objs [(o,ep,.row fl false e els)]) o=some (ep,.row fl false e els):=by
  show look ((o,ep,_) :: st.objs) o=_
  rw [ZaB,if_pos rfl]
 have hOw:Ow P w (.lst fl e els) (pl o) (F o):=by
  rcases hs.objs o _ _ hl with ⟨_,h5⟩|⟨h5,_⟩
  ·exact h5
  ·cases h5
 obtain ⟨us,fs,s1,s2,s3,s4,s5,s6,s7,s8⟩:∃ (us:List Value) (fs:Nat→Nat→Prop),ZbZ w e (P.cellsOf e) (pl o) els.length us∧(∀ x ∈ els,x.length=P.cellsOf e)∧(fl=true→∀ x ∈ els.flatten,x.flat=true) ∧
   els.flatten.length=us.length∧(∀ (k:Nat) (x:T) (v:Value),els.flatten[k]?=some x→us[k]?=some v→Ow P w x v (fs k))∧(∀ k k' b,k ≠ k'→fs k b→¬ fs k' b) ∧
   (∀ k b,fs k b→(pl o).ownBlock ≠ some b)∧(∀ b,F o b↔((pl o).ownBlock=some b∨∃ k,fs k b)):=by
  generalize pl o=vo at hOw
  cases hOw with
  | flat hf=>cases hf
  | lst us fs s1 s2 s3 s4 s5 s6 s7 s8=>exact ⟨us,fs,s1,s2,s3,s4,s5,s6,s7,s8⟩
 obtain ⟨pl',F',h5,_⟩:=hs.many (w':=w) (objs':=updl st.objs [(o,ep,.row fl false e els)]) (nv:=fun _=>pl o) (nF:=fun _ b=>(pl o).ownBlock=some b) (Nw:=fun k=>k=o)
  (Kp.refl _ _) (fun _ _ _=>rfl)
  (fun k hk=>by
   show look ((o,ep,_) :: st.objs) k=_
   rw [ZaB,if_neg fun e=>hk e.symm])
  (fun k hk=>by
   subst hk
   refine ⟨ep,_,hlo,fun ep0 ob0' h0=>.inr ?_,fun h0=>(by rw [hl] at h0;cases h0)⟩
   rw [hl] at h0
   cases h0
   exact ⟨rfl,rfl,rfl,rfl⟩)
  (fun k b hk hf=>⟨(hs.range _ _ _ hl ((s8 b).2 (.inl hf))).2,.inr ⟨o,_,rfl,hl,(s8 b).2 (.inl hf)⟩⟩)
  (fun k k' b hk hk' hne' _ _=>hne' (hk.trans hk'.symm))
  (fun lk' pl' Fr' hFr hlp k e' b hk hlk=>by
   subst hk
   rw [hlo] at hlk
   cases hlk
   refine .inr ⟨rfl,us,s1,s2,s3,s4,fun k x u hx hu=>(s5 k x u hx hu).rd fun b hb=>?_,fun b=>Iff.rfl⟩
   exact hFr b (.inr (.inr ⟨_,_,rfl,hl,(s8 b).2 (.inr ⟨k,hb⟩)⟩)) (hs.range _ _ _ hl ((s8 b).2 (.inr ⟨k,hb⟩))).2 fun i _=>s7 k b hb)
 exact ⟨pl',F',h5⟩
end
end Go.Proofs.YthfaongbpdnlnaaGreat.Ab
namespace Go.Proofs.YthfaongbpdnlnaaGreat
set_option maxHeartbeats 4000000
set_option maxRecDepth 100000
set_option linter.unusedSimpArgs false
set_option linter.unusedVariables false
open Go.RowKit Ab
noncomputable def Zwe (p:Pr):Int:=if Zb9 p=true then p.now.tick - p.base.tick else -1
theorem Zv6 (p:Pr) (hp:Zeq p):AC Tryz.prog 27 [.agg [.t (.int .i64 p.me),.t (.int .i64 p.delay),.t (.int .i64 p.ahead),.t (.int .i64 p.seed),.t (.lst false 46 (p.tracks.map trackC)),.t (.lst true 9 (Zai p.base.level)),.t (.int .i64 p.base.tick),.t (.int .i64 p.base.seed),.t (ints 3 p.base.scores),.t (.lst true 114 (p.base.bodies.map bodyC)),.t (.lst true 9 (Zai p.now.level)),.t (.int .i64 p.now.tick),.t (.int .i64 p.now.seed),.t (ints 3 p.now.scores),.t (.lst true 114 (p.now.bodies.map bodyC)),.t (.lst false 27 (p.used.map trackC)),.t (.lst true 100 (p.saves.map saveC)),.t (ints 3 p.sums),.t (.int .i64 p.ft),.t (.int .i64 p.fp),.t (.int .i64 p.fa),.t (.int .i64 p.rolls),.t (.int .i64 p.again)]] (.t (.int .i64 (Zwe p))):=by
 have hpo:=Zgp p hp.tracks.1
 unfold Zwe
 by_cases c:Zb9 p=true
 ·rw [if_pos c]
  rw [c] at hpo
  obtain ⟨n1,n2,n3,n4,n5,n6,hme,hm,n9,n10⟩:=ZqO (Zbq.1 c)
  refine AC.go Tryz.func27 Tryz.ntmps27 fun B W hr=>?_
  repeat' (first|refine pa ?_|(refine pb ?_ ?_<;>intro hg)|(refine Zab (n:=20) ?_;(first|refine Zaa hpo ?_))|refine po ?_|fail)
  exact pfr
 ·rw [if_neg c]
  rw [Bool.not_eq_true] at c
  rw [c] at hpo
  refine AC.go Tryz.func27 Tryz.ntmps27 fun B W hr=>?_
  repeat' (first|refine pa ?_|(refine pb ?_ ?_<;>intro hg)|(refine Zab (n:=20) ?_;(first|refine Zaa hpo ?_))|refine po ?_|fail)
  exact pfr
theorem ZvQ (p:Pr) (input:Int) (hp:Zeq p) (v:Pr) (hv:v=Zsg p input):AC Tryz.prog 18 [.agg [.t (.int .i64 p.me),.t (.int .i64 p.delay),.t (.int .i64 p.ahead),.t (.int .i64 p.seed),.t (.lst false 46 (p.tracks.map trackC)),.t (.lst true 9 (Zai p.base.level)),.t (.int .i64 p.base.tick),.t (.int .i64 p.base.seed),.t (ints 3 p.base.scores),.t (.lst true 114 (p.base.bodies.map bodyC)),.t (.lst true 9 (Zai p.now.level)),.t (.int .i64 p.now.tick),.t (.int .i64 p.now.seed),.t (ints 3 p.now.scores),.t (.lst true 114 (p.now.bodies.map bodyC)),.t (.lst false 27 (p.used.map trackC)),.t (.lst true 100 (p.saves.map saveC)),.t (ints 3 p.sums),.t (.int .i64 p.ft),.t (.int .i64 p.fp),.t (.int .i64 p.fa),.t (.int .i64 p.rolls),.t (.int .i64 p.again)],.t (.int .i64 input)] (.tup [.agg [.t (.int .i64 v.me),.t (.int .i64 v.delay),.t (.int .i64 v.ahead),.t (.int .i64 v.seed),.fr false 46 (v.tracks.map trackC),.fr true 9 (Zai v.base.level),.t (.int .i64 v.base.tick),.t (.int .i64 v.base.seed),.fr true 3 (Zak v.base.scores),.fr true 114 (v.base.bodies.map bodyC),.fr true 9 (Zai v.now.level),.t (.int .i64 v.now.tick),.t (.int .i64 v.now.seed),.fr true 3 (Zak v.now.scores),.fr true 114 (v.now.bodies.map bodyC),.fr false 27 (v.used.map trackC),.fr true 100 (v.saves.map saveC),.fr true 3 (Zak v.sums),.t (.int .i64 v.ft),.t (.int .i64 v.fp),.t (.int .i64 v.fa),.t (.int .i64 v.rolls),.t (.int .i64 v.again)],.t (.bool (decide (ZoT p input)))]):=by
 have hpo:=Zgp p hp.tracks.1
 have hcp:=ZjY p hp
 by_cases h1:Zb9 p=true
 case neg =>
  have hno:¬ ZoT p input:=fun h=>h1 h.1
  rw [Bool.not_eq_true] at h1
  rw [h1] at hpo
  rw [Zsg,if_neg hno] at hv
  rw [decide_eq_false hno,hv]
  refine AC.go Tryz.func18 Tryz.ntmps18 fun B W hr=>?_
  repeat' (first|refine pa ?_|(refine pb ?_ ?_<;>intro hg)|(refine Zab (n:=20) ?_;(first|refine Zaa hpo ?_|refine pz3 hcp ?_))|refine po ?_|fail)
  exact pfg
 rw [h1] at hpo
 by_cases h2:inR input 0 15=true
 case neg =>
  have hno:¬ ZoT p input:=fun h=>h2 (Zae.2 h.2.1)
  rw [Bool.not_eq_true] at h2
  rw [Zsg,if_neg hno] at hv
  rw [decide_eq_false hno,hv]
  refine AC.go Tryz.func18 Tryz.ntmps18 fun B W hr=>?_
  repeat' (first|refine pa ?_|(refine pb ?_ ?_<;>intro hg)|(refine Zab (n:=20) ?_;(first|refine Zaa hpo ?_|refine Zaa ((Zaq _ _ _)) ?_|refine pz3 hcp ?_))|refine po ?_|fail)
  exact pfg
 have hpp:=Zbq.1 h1
 obtain ⟨m,hme⟩:=Int.eq_ofNat_of_zero_le hpp.me.1
 have hmt:p.me.toNat=m:=by omega
 have hml:m < p.tracks.length:=by have:=hpp.me;omega
 have htk:=hpp.now.tick
 have hdl:=hpp.delay
 have htl:=hp.tracks.2 m hml
 have hlm:ZtA p=p.tracks.getD m default:=by rw [ZtA,hmt]
 have hel:(p.tracks.map trackC).length=p.tracks.length:=List.length_map _
 by_cases h3:((p.tracks.getD m default).length:Int)=p.now.tick + p.delay
 case neg =>
  have hno:¬ ZoT p input:=fun h=>h3 (by rw [← hlm];exact h.2.2.1)
  rw [Zsg,if_neg hno] at hv
  rw [decide_eq_false hno,hv]
  clear hpp h1
  refine AC.go Tryz.func18 Tryz.ntmps18 fun B W hr=>?_
  repeat' (first|refine pa ?_|(refine pb ?_ ?_<;>intro hg)|refine ZnM ?_|(refine Zab (n:=20) ?_;(first|refine Zaa hpo ?_|refine Zaa ((Zaq _ _ _)) ?_|refine pz3 hcp ?_))|refine po ?_|fail)
  exact pfg
 by_cases h4:(p.tracks.getD m default).length < 400
 case neg =>
  have hno:¬ ZoT p input:=fun h=>h4 (by rw [← hlm];exact h.2.2.2)
  rw [Zsg,if_neg hno] at hv
  rw [decide_eq_false hno,hv]
  clear hpp h1
  refine AC.go Tryz.func18 Tryz.ntmps18 fun B W hr=>?_
  repeat' (first|refine pa ?_|(refine pb ?_ ?_<;>intro hg)|refine ZnM ?_|(refine Zab (n:=20) ?_;(first|refine Zaa hpo ?_|refine Zaa ((Zaq _ _ _)) ?_|refine pz3 hcp ?_))|refine po ?_|fail)
  exact pfg
 have hyes:ZoT p input:=⟨h1,Zae.1 h2,by rw [hlm];exact h3,by rw [hlm];exact h4⟩
 rw [Zsg,if_pos hyes,hmt,hlm] at hv
 rw [decide_eq_true hyes,hv]
 have hq:=Zuu hml
 have hcl:=ZtM (x:=input) hml
 have htl2:=Zal (p.tracks.getD m default)
 clear hpp h1 hyes hlm
 refine AC.go Tryz.func18 Tryz.ntmps18 fun B W hr=>?_
 repeat' (first|(refine pth ?_)|((fail_if_success (with_reducible show aW _ _ _ (Code.seq (Code.seq (Code.region 7 _ _) _) _) _ _));(fail_if_success (with_reducible show aW _ _ _ (Code.seq (Code.region 7 _ _) _) _ _));(fail_if_success (with_reducible show aW _ _ _ (Code.region 7 _ _) _ _));(first|refine pc ?_|(refine pbc ?_ ?_<;>intro hg)))|(first|refine pl ?_|(refine pbl ?_ ?_<;>intro hg))|(first|refine ZnM ?_|(refine Zab (n:=20) ?_;(first|refine Zaa hpo ?_|refine Zaa ((Zaq _ _ _)) ?_|refine pz3 hcp ?_))|refine po ?_)|fail)
 refine aW.ghost (Zco.open_ (o:=10004) (j:=500) (ej:=1) (q:=m) rfl hq (by decide) rfl) ?_
 dsimp only [St.upds,updl]
 repeat' (first|(refine pth ?_)|((fail_if_success (with_reducible show aW _ _ _ (Code.seq (Code.seq (Code.region 9 _ _) _) _) _ _));(fail_if_success (with_reducible show aW _ _ _ (Code.seq (Code.region 9 _ _) _) _ _));(fail_if_success (with_reducible show aW _ _ _ (Code.region 9 _ _) _ _));(first|refine pc ?_|(refine pbc ?_ ?_<;>intro hg)))|(first|refine pl ?_|(refine pbl ?_ ?_<;>intro hg))|(first|refine ZnM ?_|refine pxhst ?_|refine ZuQ ?_|refine po ?_)|fail)
 refine aW.ghost (Zco.close (o:=10004) (j:=500) (s:=1) (c:=0) (i:=m) rfl rfl (by decide) (by have h:Zac Tryz.prog 46=some _:=Tryz.ti rfl;exact ZeD h) (by omega) (by decide) (by rw [List.length_map];omega) hcl) ?_
 dsimp only [St.upds,updl]
 repeat' (first|refine pa ?_|(refine pb ?_ ?_<;>intro hg)|refine po ?_|fail)
 exact pfg
theorem Zv1 (l:Lv) (n seed me delay ahead ft fp fa:Int) (hl:l.length≤1048576) (p:Pr) (hv:p=Zup l n seed me delay ahead ft fp fa):AC Tryz.prog 17 [.agg [.t (.lst true 9 (Zai l))],.t (.int .i64 n),.t (.int .i64 seed),.t (.int .i64 me),.t (.int .i64 delay),.t (.int .i64 ahead),.agg [.t (.int .i64 ft),.t (.int .i64 fp),.t (.int .i64 fa)]] (.tup [.agg [.t (.int .i64 p.me),.t (.int .i64 p.delay),.t (.int .i64 p.ahead),.t (.int .i64 p.seed),.fr false 46 (p.tracks.map trackC),.fr true 9 (Zai p.base.level),.t (.int .i64 p.base.tick),.t (.int .i64 p.base.seed),.fr true 3 (Zak p.base.scores),.fr true 114 (p.base.bodies.map bodyC),.fr true 9 (Zai p.now.level),.t (.int .i64 p.now.tick),.t (.int .i64 p.now.seed),.fr true 3 (Zak p.now.scores),.fr true 114 (p.now.bodies.map bodyC),.fr false 27 (p.used.map trackC),.fr true 100 (p.saves.map saveC),.fr true 3 (Zak p.sums),.t (.int .i64 p.ft),.t (.int .i64 p.fp),.t (.int .i64 p.fa),.t (.int .i64 p.rolls),.t (.int .i64 p.again)],.t (.bool (decide (ZsV l n seed me delay ahead ft fp fa)))]):=by
 have hnw:=ZjT l n seed hl _ rfl
 obtain ⟨w1,w2,w3⟩:=Zuq l n seed
 have hcw:=Zc1 (ZeI l n seed) w1 w2 w3
 by_cases hok:Zer l n seed
 case neg =>
  have hno:¬ ZsV l n seed me delay ahead ft fp fa:=fun h=>hok h.1
  rw [decide_eq_false hno]
  rw [Zup,if_neg hno] at hv
  subst hv
  rw [decide_eq_false hok] at hnw
  generalize ZeI l n seed=w at hnw hcw
  refine AC.go Tryz.func17 Tryz.ntmps17 fun B W hr=>?_
  repeat' (first|refine pa ?_|(refine pb ?_ ?_<;>intro hg)|(refine Zab (n:=20) ?_;(first|refine pz3 hnw ?_|refine pz3 hcw ?_))|refine po ?_|(refine Zv5 ?_)|fail)
  exact pfg
 rw [decide_eq_true hok] at hnw
 by_cases hd:inR delay 0 5=true
 case neg =>
  have hno:¬ ZsV l n seed me delay ahead ft fp fa:=fun h=>hd (Zae.2 h.2.1)
  rw [Bool.not_eq_true] at hd
  rw [decide_eq_false hno]
  rw [Zup,if_neg hno] at hv
  subst hv
  generalize ZeI l n seed=w at hnw hcw
  refine AC.go Tryz.func17 Tryz.ntmps17 fun B W hr=>?_
  repeat' (first|refine pa ?_|(refine pb ?_ ?_<;>intro hg)|(refine Zab (n:=20) ?_;(first|refine Zaa ((Zaq _ _ _)) ?_|refine Zaa ((Zaq _ _ _)) ?_|refine pz3 hnw ?_|refine pz3 hcw ?_))|refine po ?_|(refine Zv5 ?_)|fail)
  exact pfg
 obtain ⟨m,rfl⟩:=Int.eq_ofNat_of_zero_le (show 0≤n by have:=hok.2.1;omega)
 obtain ⟨d,rfl⟩:=Int.eq_ofNat_of_zero_le (Zae.1 hd).1
 have hm4:1≤m∧m≤4:=by have:=hok.2.1;omega
 have hd5:d≤5:=by have:=(Zae.1 hd).2;omega
 obtain ⟨w,hw⟩:∃ w,w=ZeI l m seed:=⟨_,rfl⟩
 have hpr:ZsD l m seed me d ahead ft fp fa=⟨me,d,ahead,seed,List.replicate m (List.replicate d 0),w,w,[],[],[Zgm w],ft,fp,fa,0,0⟩:=by
  unfold ZsD
  rw [Int.toNat_natCast,Int.toNat_natCast,← hw]
 rw [← hw] at hnw hcw
 have hws:=Zrx w
 have hpo:=Zgp ⟨me,d,ahead,seed,List.replicate m (List.replicate d 0),w,w,[],[],[Zgm w],ft,fp,fa,0,0⟩ (by show (List.replicate _ _).length≤_;rw [List.length_replicate];omega)
 dsimp only at hpo
 refine AC.go Tryz.func17 Tryz.ntmps17 fun B W hr=>?_
 repeat' (first|refine pa ?_|(refine pb ?_ ?_<;>intro hg)|(refine Zab (n:=20) ?_;(first|refine Zaa ((Zaq _ _ _)) ?_|refine Zaa ((Zaq _ _ _)) ?_|refine pz3 hnw ?_|refine pz3 hcw ?_))|refine po ?_|(refine Zv5 ?_)|fail)
 refine aW.nilcell (o:=18) (i:=500) (k:=4) false 46 rfl rfl rfl rfl rfl ?_
 refine aW.loopF rfl (fun q:Nat×Nat=>[(19,.t (.int .i64 q.1))]) [(1,_),(4,_),(14,_),(15,_),(16,_),(18,_)] (fun q=>[(18,1,.box 40 [.t (.int .i64 me),.t (.int .i64 d),.t (.int .i64 ahead),.t (.int .i64 seed),.hnd 500 q.2,.hnd 24000 1,.t (.int .i64 w.tick),.t (.int .i64 w.seed),.hnd 24003 1,.hnd 24004 1,.hnd 41000 1,.t (.int .i64 w.tick),.t (.int .i64 w.seed),.hnd 41003 1,.hnd 41004 1,.t .nil,.t .nil,.t .nil,.t (.int .i64 ft),.t (.int .i64 fp),.t (.int .i64 fa),.t (.int .i64 0),.t (.int .i64 0)]),(500,q.2,.row false true 46 ((List.replicate q.1 (List.replicate d 0)).map trackC))]) [(14,_,_),(16,_,_),(24000,_,_),(24003,_,_),(24004,_,_),(41000,_,_),(41003,_,_),(41004,_,_)] (fun q=>q.1≤m) (fun q=>m - q.1) (0,1) (Nat.zero_le _) (by (exact plei)) ?_
 rintro ⟨k,ep⟩ hI
 have hk0:k≤m:=hI
 have hz:((List.replicate k (List.replicate d (0:Int))).map trackC).length=k:=by rw [List.length_map,List.length_replicate]
 have hz2:(List.replicate k (List.replicate d (0:Int))).length=k:=List.length_replicate
 refine pln ?_
 by_cases hk:k < m
 ·repeat' (first|refine pa ?_|(refine pb ?_ ?_<;>intro hg)|refine ZaX ?_|refine po ?_|(refine T90d3 ?_)|fail)
  exact ⟨(k + 1,ep + 1),hk,by show m - (k + 1) < m - k;omega,by rw [ZuR];(exact ple)⟩
 ·obtain rfl:k=m:=by omega
  by_cases hyes:ZsV l k seed me d ahead ft fp fa
  ·have hy:=hyes.2.2
   rw [hpr] at hy
   rw [hy] at hpo
   rw [Zup,if_pos hyes,hpr] at hv
   rw [decide_eq_true hyes,hv]
   repeat' (first|refine pa ?_|(refine pb ?_ ?_<;>intro hg)|(refine Zab (n:=20) ?_;(first|refine Zaa hws ?_|refine Zaa hpo ?_))|refine po ?_|fail)
   exact pfg
  ·have hy:¬ Zb9 (ZsD l k seed me d ahead ft fp fa)=true:=fun e=>hyes ⟨hok,Zae.1 hd,e⟩
   rw [hpr,Bool.not_eq_true] at hy
   rw [hy] at hpo
   rw [Zup,if_neg hyes] at hv
   rw [decide_eq_false hyes,hv]
   repeat' (first|refine pa ?_|(refine pb ?_ ?_<;>intro hg)|(refine Zab (n:=20) ?_;(first|refine Zaa hws ?_|refine Zaa hpo ?_))|refine po ?_|fail)
   exact pfg
theorem Zv8 (zs:List Int) (y:Int):Zak (zs++[y])=Zak zs++[[T.int .i64 y]]:=by simp [Zak,intC]
theorem Zv7 (xs:List Int) (hxl:xs.length≤1048576) (i:Nat) (h:Int) (n:Nat) (hn:n≤4):AMP Tryz.prog 144 [(0,0,.box 145 [.t (.lst true 5 (Zsm xs)),.t (.int .i64 i),.t (.int .i64 h)])] [.ptr 0 0 0 0,.t (.int .i64 (n:Int))] (α:=Nat×Int×List Int) (fun x=>[(0,0,.box 145 [.t (.lst true 5 (Zsm xs)),.t (.int .i64 x.1),.t (.int .i64 x.2.1)])]) (fun x=>.fr true 3 (Zak x.2.2)) (fun x=>x.2.2.length=n∧in15 x.2.2):=by
 refine AMP.go Tryz.func144 Tryz.ntmps144 fun B W hr=>?_
 repeat' (first|refine pa ?_|(refine pb ?_ ?_<;>intro hg)|refine po ?_|fail)
 refine aW.loopF rfl (fun q:Nat×Int×Nat×List Int=>[(5,.hnd 6 q.2.2.1)]) [(0,_),(1,_)] (fun q=>[(0,0,.box 145 [.t (.lst true 5 (Zsm xs)),.t (.int .i64 q.1),.t (.int .i64 q.2.1)]),(6,q.2.2.1,.row true true 3 (Zak q.2.2.2))]) [] (fun q=>q.2.2.2.length≤n∧in15 q.2.2.2) (fun q=>n - q.2.2.2.length) (i,h,1,[]) ⟨Nat.zero_le _,fun y hy=>by cases hy⟩ (by (exact plei)) ?_
 rintro ⟨i1,h1,ep,zs⟩ hI
 obtain ⟨hlen,hall⟩:zs.length≤n∧in15 zs:=hI
 have hzl:=Zal zs
 refine pln ?_
 by_cases hk:zs.length < n
 ·repeat' (first|refine pa ?_|(refine pb ?_ ?_<;>intro hg)|(refine Zab (n:=20) ?_;(first|(refine Zp4 (m:=[(0,_,_)]) (Zsc _ hxl _ _) (fun e he=>?_);refine pmk ?_)))|refine po ?_|fail)
  exact ⟨(_,_,ep + 1,zs++[e.2.2]),⟨by show (zs++[e.2.2]).length≤n;rw [List.length_append];simp;omega,ZvZ hall he⟩,by show n - (zs++[e.2.2]).length < n - zs.length;rw [List.length_append];simp;omega,by rw [Zv8];(exact ple)⟩
 ·repeat' (first|refine pa ?_|(refine pb ?_ ?_<;>intro hg)|refine po ?_|fail)
  (show Zsp _ _ _ _ _ _ _ _;apply Zss;(case dd=>(dsimp only;(show Zbu _ _ _ _ _ _ _;refine ZgD ?_;first|exact .inl ⟨rfl,rfl,rfl⟩|refine .inr ⟨rfl,?_,(by exact pU2),rfl⟩);(exact pgiv)));case pp=>exact ⟨by show zs.length=n;omega,hall⟩)
theorem Zwg (ts:TS) (x:List Int):(ts++[x]).map trackC=ts.map trackC++[[.lst true 3 (Zak x)]]:=by rw [List.map_append];rfl
theorem Zv3 {n:Nat} {ts:TS} {x:List Int} (h:rowsOf n ts) (hx:x.length=n∧in15 x):rowsOf n (ts++[x]):=fun t ht=>by
 rcases List.mem_append.1 ht with ht|ht
 ·exact h t ht
 ·rw [List.mem_singleton.1 ht];exact hx
theorem ZvE (xs:List Int) (hxl:xs.length≤1048576) (i:Nat) (h:Int) (n:Nat) (hn:n≤4):AMP Tryz.prog 63 [(0,0,.box 145 [.t (.lst true 5 (Zsm xs)),.t (.int .i64 i),.t (.int .i64 h)])] [.ptr 0 0 0 0,.t (.int .i64 (n:Int)),.t (.int .i64 24)] (α:=Nat×Int×TS) (fun x=>[(0,0,.box 145 [.t (.lst true 5 (Zsm xs)),.t (.int .i64 x.1),.t (.int .i64 x.2.1)])]) (fun x=>.t (.lst false 27 (x.2.2.map trackC))) (fun x=>x.2.2.length≤92∧rowsOf n x.2.2):=by
 refine AMP.go Tryz.func63 Tryz.ntmps63 fun B W hr=>?_
 repeat' (first|refine pa ?_|(refine pb ?_ ?_<;>intro hg)|(refine Zab (n:=20) ?_;(first|(refine Zp4 (m:=[(0,_,_)]) (Zsb _ hxl _ _ 24 (by decide)) (fun b hb=>?_);refine pmk ?_)))|refine po ?_|fail)
 refine aW.ghost (Zco.unflat (o:=11) rfl) ?_
 dsimp only [St.upds,updl]
 refine aW.ghost (Zco.share (o:=11) rfl) ?_
 dsimp only [St.upds,updl]
 refine aW.loopF rfl (fun q:Int×Nat×Int×Nat×TS=>[(8,.t (.int .i64 q.1)),(7,.hnd 11 q.2.2.2.1)]) [(0,_),(1,_)] (fun q=>[(0,0,.box 145 [.t (.lst true 5 (Zsm xs)),.t (.int .i64 q.2.1),.t (.int .i64 q.2.2.1)]),(11,q.2.2.2.1,.row false false 27 (q.2.2.2.2.map trackC))]) [] (fun q=>0≤q.1∧q.1≤23∧(q.2.2.2.2.length:Int) + 4 * q.1≤92∧rowsOf n q.2.2.2.2) (fun q=>q.1.toNat) (b.2.2,b.1,b.2.1,1,[]) ⟨by show (0:Int)≤b.2.2;omega,by show (b.2.2:Int)≤23;omega,by show (([]:TS).length:Int) + 4 * (b.2.2:Int)≤92;simp;omega,fun t ht=>by cases ht⟩ (by (exact plei)) ?_
 rintro ⟨k,i1,h1,ep,ts⟩ hI
 obtain ⟨hk0,hk1,hlen,hall⟩:0≤k∧k≤23∧(ts.length:Int) + 4 * k≤92∧rowsOf n ts:=hI
 refine pln ?_
 by_cases hk:0 < k
 ·repeat' (first|refine pa ?_|(refine pb ?_ ?_<;>intro hg)|(refine Zab (n:=20) ?_;(first|(refine Zp4 (m:=[(0,_,_)]) (AMP.ro (Zv7 _ hxl _ _ n hn)) (fun e he=>?_);refine pmk ?_)|(refine Zp4 (m:=[(0,_,_)]) (Zsb _ hxl _ _ 4 (by decide)) (fun c hc=>?_);refine pmk ?_)))|refine po ?_|fail)
  refine aW.loopF rfl (fun q:Int×Nat×TS=>[(10,.t (.int .i64 q.1)),(7,.hnd 11 q.2.1)]) [(0,_),(1,_),(8,_),(9,_)] (fun q=>[(11,q.2.1,.row false false 27 (q.2.2.map trackC))]) [(0,_,_)] (fun q=>-1≤q.1∧q.1≤3∧(q.2.2.length:Int) + (q.1 + 1) + 4 * (k - 1)≤92∧rowsOf n q.2.2) (fun q=>(q.1 + 1).toNat) (c.2.2,ep,ts) ⟨by show -1≤(c.2.2:Int);omega,by show (c.2.2:Int)≤3;omega,by show (ts.length:Int) + ((c.2.2:Int) + 1) + 4 * (k - 1)≤92;omega,hall⟩ (by (exact plei)) ?_
  rintro ⟨j,ep2,ys⟩ hI
  obtain ⟨hj0,hj4,hlen2,hall2⟩:-1≤j∧j≤3∧(ys.length:Int) + (j + 1) + 4 * (k - 1)≤92∧rowsOf n ys:=hI
  have hel:(ys.map trackC).length=ys.length:=List.length_map _
  refine pln ?_
  by_cases hj:0≤j
  ·repeat' (first|refine pa ?_|(refine pb ?_ ?_<;>intro hg)|refine po ?_|fail)
   exact ⟨(j - 1,ep2 + 1,ys++[e.2.2]),⟨by show -1≤j - 1;omega,by show j - 1≤3;omega,by show ((ys++[e.2.2]).length:Int) + (j - 1 + 1) + 4 * (k - 1)≤92;rw [List.length_append];simp;omega,Zv3 hall2 he⟩,by show (j - 1 + 1).toNat < (j + 1).toNat;omega,by rw [Zwg];(exact ple)⟩
  ·repeat' (first|refine pa ?_|(refine pb ?_ ?_<;>intro hg)|refine po ?_|fail)
   exact ⟨(k - 1,_,_,_,ys),⟨by show 0≤k - 1;omega,by show k - 1≤23;omega,by show (ys.length:Int) + 4 * (k - 1)≤92;omega,hall2⟩,by show (k - 1).toNat < k.toNat;omega,by (exact ple)⟩
 ·refine aW.ghost (Zco.free (o:=11) (ep:=ep) (s:=7) rfl rfl) ?_
  dsimp only [St.upds,updl]
  repeat' (first|refine pa ?_|(refine pb ?_ ?_<;>intro hg)|refine po ?_|fail)
  (show Zsp _ _ _ _ _ _ _ _;apply Zss;(case dd=>(dsimp only;(show Zbu _ _ _ _ _ _ _;refine ZgD ?_;first|exact .inl ⟨rfl,rfl,rfl⟩|refine .inr ⟨rfl,?_,(by exact pU2),rfl⟩);exact .inl rfl));case pp=>exact ⟨by show ts.length≤92;omega,hall⟩)
def PlayP (x:Wd×TS):Prop:=∃ (l:Lv) (n:Nat) (seed:Int),ZaZ l∧(1≤n∧n≤4)∧(0≤seed∧seed≤65535)∧x.1=newV l n seed∧x.2.length≤92∧rowsOf n x.2
theorem ZvX (xs:List Int) (hxl:xs.length≤1048576):AMP Tryz.prog 15 [] [.t (.lst true 5 (Zsm xs))] (α:=Wd×TS) (fun _=>[]) (fun x=>.tup [.agg [.t (.lst true 9 (Zai x.1.level)),.t (.int .i64 x.1.tick),.t (.int .i64 x.1.seed),.t (ints 3 x.1.scores),.t (.lst true 114 (x.1.bodies.map bodyC))],.t (.lst false 27 (x.2.map trackC))]) PlayP:=by
 refine AMP.go Tryz.func15 Tryz.ntmps15 fun B W hr=>?_
 repeat' (first|refine pa ?_|(refine pb ?_ ?_<;>intro hg)|(refine Zab (n:=20) ?_;(first|(refine Zp4 (m:=[(31,7000,0)]) (Zug _ hxl) (fun c hc=>?_);refine pmk ?_)|(refine Zp4 (m:=[(0,_,_)]) (Zs4 _ hxl _ _) (fun l hl=>?_);refine pmk ?_)))|refine po ?_|fail)
 (first|(refine Zab (n:=20) ?_;(first|(refine Zp4 (m:=[(0,_,_)]) (Zsb _ hxl _ _ 4 (by decide)) (fun b hb=>?_);refine pmk ?_)))|refine po ?_)
 repeat' (first|refine pa ?_|(refine pb ?_ ?_<;>intro hg)|refine po ?_|fail)
 obtain ⟨n,hn⟩:∃ n:Nat,1 + (b.2.2:Int)=(n:Int):=⟨1 + b.2.2,by omega⟩
 have hn4:1≤n∧n≤4:=by omega
 rw [hn]
 have hnw:∀ (sd:Nat) (v:Wd),(sd:Int) < 65536→v=newV l.2.2 n sd→AC Tryz.prog 62 [.agg [.t (.lst true 9 (Zai l.2.2))],.t (.int .i64 (n:Int)),.t (.int .i64 (sd:Int))] (.tup [.agg [.fr true 9 (Zai v.level),.t (.int .i64 v.tick),.t (.int .i64 v.seed),.fr true 3 (Zak v.scores),.fr true 114 (v.bodies.map bodyC)],.t (.bool true)]):=fun sd v hs hv=>by
  have hok:Zer l.2.2 (n:Int) sd:=⟨hl,by omega,by omega,by omega⟩
  have h:=Zj4 l.2.2 (n:Int) sd (by have:=hl.n12;omega) v (by
   rw [hv,ZeI,if_pos hok,Int.toNat_natCast])
  rw [decide_eq_true hok] at h
  exact h
 refine aW.draw_k (os:=[5]) (Checked.mixed Tryz.checked) rfl ?_
 refine aA.to (n':=11) rfl rfl ?_
 refine pt7_ 0 ?_
 refine pt0_ 1 ?_
 refine pt0_ 2 ?_
 refine pq2 3 8 ?_ ?_
 ·refine pop ?_
  (first|(refine Zab (n:=20) ?_;(first|(refine Zp4 (m:=[(0,_,_)]) (Zsb _ hxl _ _ 65536 (by decide)) (fun s hs=>?_);refine pmk ?_)))|refine po ?_)
  refine pq2 4 8 ?_ ?_
  ·refine pop ?_
   (first|(refine Zab (n:=20) ?_;(first|refine Zc5 ((hnw s.2.2 _ hs rfl)) ?_))|refine po ?_)
   refine pt0_ 5 ?_
   refine Zes 6 ?_
   refine Zes 7 ?_
   refine pq1 8 ?_
   refine pop ?_
   refine pk3 ?_
   refine pq1 9 ?_
   refine pop ?_
   refine pk8 ?_
   refine pt1_ 10 ?_
   refine ZaI ?_
   repeat' (first|refine pa ?_|(refine pb ?_ ?_<;>intro hg)|refine po ?_|fail)
   refine aW.draw_k (os:=[7]) (Checked.mixed Tryz.checked) rfl ?_
   refine aA.to (n':=6) rfl rfl ?_
   refine pt7_ 0 ?_
   refine pt0_ 1 ?_
   refine pt0_ 2 ?_
   refine pq1 3 ?_
   refine pop ?_
   (first|(refine Zab (n:=20) ?_;(first|(refine Zp4 (m:=[(0,_,_)]) (ZvE _ hxl _ _ n hn4.2) (fun y hy=>?_);refine pmk ?_)))|refine po ?_)
   refine pq1 4 ?_
   refine pop ?_
   refine pk8 ?_
   refine pt1_ 5 ?_
   refine ZaI ?_
   repeat' (first|refine pa ?_|(refine pb ?_ ?_<;>intro hg)|refine po ?_|fail)
   refine ⟨(newV l.2.2 n s.2.2,y.2.2),⟨l.2.2,n,s.2.2,hl,hn4,by omega,rfl,hy.1,hy.2⟩,?_⟩
   (show Zbu _ _ _ _ _ _ _;refine ZgD ?_;first|exact .inl ⟨rfl,rfl,rfl⟩|refine .inr ⟨rfl,?_,(by exact pU2),rfl⟩)
   (exact pgiv)
  ·refine pop ?_
   refine pk3 ?_
   refine pq1 4 ?_
   refine pop ?_
   (first|(refine Zab (n:=20) ?_;(first|refine Zc5 ((hnw s.2.2 _ hs rfl)) ?_))|refine po ?_)
   refine pt0_ 5 ?_
   refine Zes 6 ?_
   refine Zes 7 ?_
   refine pq1 9 ?_
   refine pop ?_
   refine pk8 ?_
   refine pt1_ 10 ?_
   refine ZaI ?_
   repeat' (first|refine pa ?_|(refine pb ?_ ?_<;>intro hg)|refine po ?_|fail)
   refine aW.draw_k (os:=[7]) (Checked.mixed Tryz.checked) rfl ?_
   refine aA.to (n':=6) rfl rfl ?_
   refine pt7_ 0 ?_
   refine pt0_ 1 ?_
   refine pt0_ 2 ?_
   refine pq1 3 ?_
   refine pop ?_
   (first|(refine Zab (n:=20) ?_;(first|(refine Zp4 (m:=[(0,_,_)]) (ZvE _ hxl _ _ n hn4.2) (fun y hy=>?_);refine pmk ?_)))|refine po ?_)
   refine pq1 4 ?_
   refine pop ?_
   refine pk8 ?_
   refine pt1_ 5 ?_
   refine ZaI ?_
   repeat' (first|refine pa ?_|(refine pb ?_ ?_<;>intro hg)|refine po ?_|fail)
   refine ⟨(newV l.2.2 n s.2.2,y.2.2),⟨l.2.2,n,s.2.2,hl,hn4,by omega,rfl,hy.1,hy.2⟩,?_⟩
   (show Zbu _ _ _ _ _ _ _;refine ZgD ?_;first|exact .inl ⟨rfl,rfl,rfl⟩|refine .inr ⟨rfl,?_,(by exact pU2),rfl⟩)
   (exact pgiv)
 ·refine pop ?_
  refine pk3 ?_
  refine pq1 3 ?_
  refine pop ?_
  (first|(refine Zab (n:=20) ?_;(first|(refine Zp4 (m:=[(0,_,_)]) (Zsb _ hxl _ _ 65536 (by decide)) (fun s hs=>?_);refine pmk ?_)))|refine po ?_)
  refine pq1 4 ?_
  refine pop ?_
  (first|(refine Zab (n:=20) ?_;(first|refine Zc5 ((hnw s.2.2 _ hs rfl)) ?_))|refine po ?_)
  refine pt0_ 5 ?_
  refine Zes 6 ?_
  refine Zes 7 ?_
  refine pq1 9 ?_
  refine pop ?_
  refine pk8 ?_
  refine pt1_ 10 ?_
  refine ZaI ?_
  repeat' (first|refine pa ?_|(refine pb ?_ ?_<;>intro hg)|refine po ?_|fail)
  refine aW.draw_k (os:=[7]) (Checked.mixed Tryz.checked) rfl ?_
  refine aA.to (n':=6) rfl rfl ?_
  refine pt7_ 0 ?_
  refine pt0_ 1 ?_
  refine pt0_ 2 ?_
  refine pq1 3 ?_
  refine pop ?_
  (first|(refine Zab (n:=20) ?_;(first|(refine Zp4 (m:=[(0,_,_)]) (ZvE _ hxl _ _ n hn4.2) (fun y hy=>?_);refine pmk ?_)))|refine po ?_)
  refine pq1 4 ?_
  refine pop ?_
  refine pk8 ?_
  refine pt1_ 5 ?_
  refine ZaI ?_
  repeat' (first|refine pa ?_|(refine pb ?_ ?_<;>intro hg)|refine po ?_|fail)
  refine ⟨(newV l.2.2 n s.2.2,y.2.2),⟨l.2.2,n,s.2.2,hl,hn4,by omega,rfl,hy.1,hy.2⟩,?_⟩
  (show Zbu _ _ _ _ _ _ _;refine ZgD ?_;first|exact .inl ⟨rfl,rfl,rfl⟩|refine .inr ⟨rfl,?_,(by exact pU2),rfl⟩)
  (exact pgiv)
noncomputable def runS (w:Wd):TS→Wd
 | []=>w
 | row :: r=>runS (ZbY w row) r
theorem ZvU:∀ (xs ys:TS) (w:Wd),runS w (xs++ys)=runS (runS w xs) ys
 | [],_,_=>rfl
 | _ :: xs,ys,w=>ZvU xs ys _
theorem ZvP:∀ {rows:TS} {w:Wd},ZaV w→runF 0 0 0 w rows=runS w rows
 | [],_,_=>rfl
 | row :: r,w,h=>by
  have ht:=h.tick
  show runF 0 0 0 (ZbA (ZbY w row) w 0 0 0) r=runS (ZbY w row) r
  rw [ZdQ fun e=>by have:=e.2.2;omega]
  exact ZvP (step_ok h)
theorem ZvT {n:Nat} {rows:TS} (h:rowsOf n rows) {t:Nat} (ht:t < rows.length):(rows.getD t default).length=n∧∀ x ∈ rows.getD t default,0≤x∧x≤15:=by
 have hm:rows.getD t default ∈ rows:=by rw [Zb6 ht];exact List.getElem_mem _
 exact h _ hm
theorem row_in {n:Nat} {rows:TS} (h:rowsOf n rows) {t j:Nat} (ht:t < rows.length) (hj:j < n):0≤(rows.getD t default).getD j 0∧(rows.getD t default).getD j 0≤15:=by
 obtain ⟨h1,h2⟩:=ZvT h ht
 refine h2 _ ?_
 rw [List.getD_eq_getElem?_getD (l:=rows.getD t default),List.getElem?_eq_getElem (l:=rows.getD t default) (by omega)]
 exact List.getElem_mem _
theorem Zwj {w:Wd} {rows:TS} {p:Pr} (h:ZvI w rows p) {t:Nat} (ht:(t:Int) < Zbe p.tracks):(rowV p.tracks t).1=rows.getD t default:=by
 have hto:=h.good.ok.tracks
 have htl:=Zbi hto
 have h0:=h.fits 0 (by omega)
 have k0:=ZkG hto ht (k:=0) (by omega)
 obtain ⟨r1,r2⟩:=ZvT h.rok (t:=t) (by omega)
 unfold rowV
 rw [if_neg (by rw [hto];simp)]
 refine List.ext_getElem (by rw [List.length_map,r1]) fun j h1 h2=>?_
 rw [List.length_map] at h1
 rw [List.getElem_map]
 have hj:=ZkG hto ht h1
 have e1:p.tracks[j]=p.tracks.getD j default:=(Zb6 h1).symm
 have hf:=(h.fits j h1).2 t (by omega)
 rw [List.getD_eq_getElem?_getD (l:=rows.getD t default),List.getElem?_eq_getElem h2] at hf
 replace hf:(p.tracks.getD j default).getD t 0=(rows.getD t default)[j]:=hf
 rw [← hf,e1]
 unfold ZaD
 rw [if_neg (by rw [ZfG hto h1];simp),if_pos hj,Int.toNat_natCast]
 rfl
theorem Zwf {w:Wd} {rows:TS} {p:Pr} (h:ZvI w rows p):p.base=runS w (rows.take p.base.tick.toNat)∧p.base.tick.toNat≤rows.length:=by
 have hto:=h.good.ok.tracks
 have htl:=Zbi hto
 have hb:=h.good.ok.base.tick
 have hk:=h.good.ok.known
 have hle:p.base.tick.toNat≤rows.length:=by
  by_cases h0:p.base.tick.toNat=0
  ·omega
  ·have h1:=ZkG hto (t:=p.base.tick - 1) (by omega) (k:=0) (by omega)
   have h2:=(h.fits 0 (by omega)).1
   omega
 refine ⟨?_,hle⟩
 have hbs:=h.good.base
 rw [h.fault.1,h.fault.2.1,h.fault.2.2,ZvP h.good.w0ok] at hbs
 rw [show Zbr p.tracks 0 p.base.tick.toNat=rows.take p.base.tick.toNat from ?_] at hbs
 ·exact hbs
 ·refine List.ext_getElem (by rw [Zdk,List.length_take];omega) fun t h1 h2=>?_
  rw [Zdk] at h1
  have e1:(Zbr p.tracks 0 p.base.tick.toNat)[t]=(Zbr p.tracks 0 p.base.tick.toNat).getD t default:=(Zb6 (by rw [Zdk];exact h1)).symm
  rw [e1,ZgF h1,List.getElem_take,show (0:Int) + (t:Int)=(t:Int) by omega,Zwj h (by omega)]
  exact Zb6 (by omega)
theorem Zwm {w:Wd} {rows:TS} {p:Pr} (h:ZvI w rows p):p.now=runS p.base (Zbr p.tracks p.base.tick p.used.length):=by
 have hn:=h.good.now
 rw [h.fault.1,h.fault.2.1,h.fault.2.2,ZvP h.good.ok.base] at hn
 rw [← Zvp h.good.ok h.right]
 exact hn
theorem Zv4 {rows ts:TS} {j:Nat} {s:List Int} (h:Fits rows ts) (hj:j < ts.length) (hl:(ts.getD j default).length + s.length≤rows.length) (hs:∀ k,k < s.length→s.getD k 0=(rows.getD ((ts.getD j default).length + k) default).getD j 0):Fits rows (ts.set j (ts.getD j default++s)):=by
 intro i hi
 rw [List.length_set] at hi
 rw [ZsJ hj]
 split
 ·rename_i e
  subst e
  refine ⟨by rw [List.length_append];exact hl,fun t ht=>?_⟩
  rw [List.length_append] at ht
  by_cases htl:t < (ts.getD j default).length
  ·rw [List.getD_eq_getElem?_getD,List.getElem?_append_left htl,← List.getD_eq_getElem?_getD]
   exact (h j hj).2 t htl
  ·rw [List.getD_eq_getElem?_getD,List.getElem?_append_right (by omega),← List.getD_eq_getElem?_getD,hs _ (by omega),show (ts.getD j default).length + (t - (ts.getD j default).length)=t by omega]
 ·exact h i hi
theorem Zwa {w:Wd} {rows:TS} {p:Pr} (h:ZvI w rows p) (hlt:p.now.tick < (rows.length:Int)):ZvI w rows (Zsg p ((rows.getD p.now.tick.toNat default).getD p.me.toNat 0)):=by
 obtain ⟨g1,g2⟩:=Zun (input:=(rows.getD p.now.tick.toNat default).getD p.me.toNat 0) h.good
 have hme:=h.good.ok.me
 have hnt:=h.good.ok.now.tick
 by_cases hc:ZoT p ((rows.getD p.now.tick.toNat default).getD p.me.toNat 0)
 ·have e:Zsg p ((rows.getD p.now.tick.toNat default).getD p.me.toNat 0)={ p with tracks:=p.tracks.set p.me.toNat (ZtA p++[(rows.getD p.now.tick.toNat default).getD p.me.toNat 0]) }:=if_pos hc
  have hlen:=hc.2.2.1
  rw [h.delay] at hlen
  have hml:((ZtA p).length:Int)=p.now.tick:=by omega
  have gr:=g2 h.right
  rw [e] at g1 gr ⊢
  refine ⟨g1,gr,h.fault,h.delay,?_,h.few,?_,?_⟩
  ·show rowsOf (p.tracks.set p.me.toNat _).length rows
   rw [List.length_set]
   exact h.rok
  ·refine Zv4 h.fits (by omega) ?_ fun k hk=>?_
   ·show (ZtA p).length + 1≤rows.length
    omega
   ·have hk0:k=0:=by simp at hk;omega
    subst hk0
    show (rows.getD p.now.tick.toNat default).getD p.me.toNat 0=(rows.getD ((ZtA p).length + 0) default).getD p.me.toNat 0
    rw [show (ZtA p).length + 0=p.now.tick.toNat by omega]
  ·show (((p.tracks.set p.me.toNat (ZtA p++[(rows.getD p.now.tick.toNat default).getD p.me.toNat 0])).getD p.me.toNat default).length:Int)≤p.now.tick + 1
   rw [ZsJ (by omega),if_pos rfl,List.length_append]
   simp
   omega
 ·have e:Zsg p ((rows.getD p.now.tick.toNat default).getD p.me.toNat 0)=p:=if_neg hc
  rw [e]
  exact h
theorem Zv0 {w:Wd} {rows:TS} {p q:Pr} (h:ZvI w rows p) (ha:ZpB p=some q):ZvI w rows q:=by
 have hc:ZnB p=true:=by
  apply Classical.byContradiction
  intro hn
  unfold ZpB at ha
  rw [if_neg hn] at ha
  cases ha
 obtain ⟨r,a1,a2,a3,a4⟩:=ZsS h.good hc
 rw [ha] at a1
 cases a1
 have hk:Kept p q:=a2▸Zto p _
 obtain ⟨_,b2,_⟩:=Zqr ha
 exact ⟨a3,a4 h.right,by rw [hk.ft,hk.fp,hk.fa];exact h.fault,by rw [hk.delay];exact h.delay,by rw [hk.tracks];exact h.rok,h.few,by rw [hk.tracks];exact h.fits,by rw [hk.tracks,hk.me,b2];have:=h.mine;omega⟩
theorem ZvL {w:Wd} {rows:TS} {p:Pr} (h:ZvI w rows p):ZvI w rows (confirmV p)∧(confirmV p).base.tick=min (confirmV p).now.tick (Zbe (confirmV p).tracks):=by
 obtain ⟨a1,a2,a3,a4,_⟩:=ZsT h.good h.right
 exact ⟨⟨a1,a2,by rw [a3.ft,a3.fp,a3.fa];exact h.fault,by rw [a3.delay];exact h.delay,by rw [a3.tracks];exact h.rok,h.few,by rw [a3.tracks];exact h.fits,by rw [a3.tracks,a3.me,a3.now];exact h.mine⟩,by rw [a4,a3.now,a3.tracks]⟩
theorem ZvR {rows:TS} {n j f u k:Nat} (hk:k < u - f):(ZvA rows n j f u).ins.getD k 0=(rows.getD (f + k) default).getD j 0:=by simp [ZvA,hk]
theorem ZvD {rows:TS} {n j f u:Nat}:(ZvA rows n j f u).ins.length=u - f:=by simp [ZvA]
theorem Zv9 {w:Wd} {rows:TS} {p:Pr} {j f u:Nat} (h:ZvI w rows p) (hj:j < p.tracks.length) (hme:(j:Int) ≠ p.me) (hf:f≤(p.tracks.getD j default).length) (hu:(p.tracks.getD j default).length≤u) (hur:u≤rows.length) (hfew:u≤f + 40):∃ q,Zsj p (ZvA rows p.tracks.length j f u)=some q∧ZvI w rows q:=by
 have hfits:=h.fits j hj
 have hrl:=h.few
 have ht:p.tracks.getD j default=(p.tracks.getD j default).take f++(p.tracks.getD j default).drop f:=(List.take_append_drop f _).symm
 have htl:((p.tracks.getD j default).take f).length=f:=by rw [List.length_take];omega
 have hdl:((p.tracks.getD j default).drop f).length=(p.tracks.getD j default).length - f:=List.length_drop
 obtain ⟨k1,k2⟩:=ZvK (x:=ZvA rows p.tracks.length j f u) h.good.ok hj ht rfl (by rw [htl];rfl) rfl (fun y hy=>by
   obtain ⟨k,hk,rfl⟩:=List.mem_map.1 hy
   exact row_in h.rok (by have:=List.mem_range.1 hk;omega) hj) (by rw [ZvD,htl];omega) ⟨rfl,rfl,rfl,rfl,rfl⟩ fun k hk1 hk2=>by
  rw [ZvD] at hk2
  rw [hdl] at hk1
  rw [ZvR hk2,← hfits.2 (f + k) (by omega),List.getD_eq_getElem?_getD,List.getElem?_drop,← List.getD_eq_getElem?_getD]
 rw [← ht,hdl] at k2
 obtain ⟨q,a1,a2,a3,a4,a5,a6,a7,a8,a9,a10,a11,a12,a13⟩:=Zul h.good (x:=ZvA rows p.tracks.length j f u) hme k1
 rw [k2] at a4
 have hmn:=h.good.ok.me
 refine ⟨q,a1,a2,a3,by rw [a11,a12,a13];exact h.fault,a9.trans h.delay,by rw [a4,List.length_set];exact h.rok,h.few,?_,?_⟩
 ·rw [a4]
  refine Zv4 h.fits hj (by rw [List.length_drop,ZvD];omega) fun k hk=>?_
  rw [List.length_drop,ZvD] at hk
  rw [List.getD_eq_getElem?_getD,List.getElem?_drop,← List.getD_eq_getElem?_getD,ZvR (by omega),show f + ((p.tracks.getD j default).length - f + k)=(p.tracks.getD j default).length + k by omega]
 ·rw [a4,a7,a5,ZsJ hj,if_neg (by omega)]
  exact h.mine
theorem Zwl {l:Lv} {n:Nat} {seed:Int} {rows:TS} {me:Nat} {ahead:Int} (hl:ZaZ l) (hn:1≤n∧n≤4) (hs:0≤seed∧seed≤65535) (hr:rowsOf n rows) (hf:rows.length≤92) (hm:me < n) (ha:1≤ahead∧ahead≤8):ZsV l n seed me 0 ahead 0 0 0∧ZvI (newV l n seed) rows (ZsD l n seed me 0 ahead 0 0 0):=by
 have hno:Zer l (n:Int) seed:=⟨hl,by omega,hs⟩
 have hw:ZeI l (n:Int) seed=newV l n seed:=by rw [ZeI,if_pos hno,Int.toNat_natCast]
 have hp:=Zs7 (me:=me) (delay:=0) (ahead:=ahead) (ft:=0) (fp:=0) (fa:=0) hno (by omega) (by omega) ha (decide_eq_true (by omega))
 obtain ⟨g1,g2⟩:=Zu2 hp
 rw [hw] at g1
 have htl:(ZsD l n seed me 0 ahead 0 0 0).tracks=List.replicate n []:=by
  show List.replicate ((n:Int)).toNat (List.replicate ((0:Int)).toNat (0:Int))=_
  rw [Int.toNat_natCast]
  rfl
 refine ⟨hp,g1,g2,⟨rfl,rfl,rfl⟩,rfl,by rw [htl,List.length_replicate];exact hr,hf,?_,?_⟩
 ·rw [htl]
  intro j hj
  rw [List.length_replicate] at hj
  rw [ZtN hj]
  exact ⟨Nat.zero_le _,fun t ht=>absurd ht (Nat.not_lt_zero _)⟩
 ·rw [htl]
  show ((((List.replicate n ([]:List Int)).getD ((me:Int)).toNat default).length:Nat):Int)≤(ZeI l n seed).tick + 1
  rw [Int.toNat_natCast,ZtN hm,hw]
  show ((0:Nat):Int)≤0 + 1
  omega
theorem Zvz.len {w:Wd} {rows:TS} {n me:Nat} {p:Pr} (h:Zvz w rows n me p):Zeq p:=Zp3 h.roll.good.ok
theorem Zvz.ticks {w:Wd} {rows:TS} {n me:Nat} {p:Pr} (h:Zvz w rows n me p):me < n∧n≤4∧0≤p.now.tick∧p.now.tick≤(rows.length:Int):=by
 have h1:=h.roll.good.ok.mine
 have h2:=h.roll.good.ok.me
 have h3:=h.roll.good.ok.now.tick
 have h4:=Zbi h.roll.good.ok.tracks
 rw [h.mine,h.tn] at h2
 have h5:=(h.roll.fits me (by rw [h.tn];omega)).1
 rw [h.mine,Int.toNat_natCast] at h1
 rw [h.tn] at h4
 exact ⟨by omega,h4.2,h3.1,by omega⟩
theorem Zvz.press {w:Wd} {rows:TS} {n me:Nat} {p:Pr} (h:Zvz w rows n me p) (hlt:p.now.tick < (rows.length:Int)):Zvz w rows n me (Zsg p ((rows.getD p.now.tick.toNat default).getD me 0)):=by
 have e:=Zwa h.roll hlt
 rw [h.mine,Int.toNat_natCast] at e
 obtain ⟨k1,k2,k3⟩:=ZuP (input:=(rows.getD p.now.tick.toNat default).getD me 0) h.roll.good.ok
 refine ⟨e,Zur h.dl,k1.1.trans h.tn,?_⟩
 rw [k3]
 exact h.mine
theorem Zvz.advance {w:Wd} {rows:TS} {n me:Nat} {p:Pr} (h:Zvz w rows n me p):Zvz w rows n me ((ZpB p).getD p):=by
 cases ha:ZpB p with
 | none=>exact h
 | some q =>
  obtain ⟨_,_,_,a4,a5,_⟩:=Zqr ha
  exact ⟨Zv0 h.roll ha,ZqX h.dl ha,by show q.tracks.length=n;rw [a4];exact h.tn,a5.trans h.mine⟩
theorem Zvz.confirm {w:Wd} {rows:TS} {n me:Nat} {p:Pr} (h:Zvz w rows n me p):Zvz w rows n me (confirmV p):=by
 obtain ⟨_,_,k,_,_⟩:=ZsT h.roll.good h.roll.right
 exact ⟨(ZvL h.roll).1,ZsH h.dl,by rw [k.tracks];exact h.tn,k.me.trans h.mine⟩
theorem Zvz.learn {w:Wd} {rows:TS} {n me:Nat} {p:Pr} {j f u:Nat} (h:Zvz w rows n me p) (hj:j < n) (hme:j ≠ me) (hf:f≤(p.tracks.getD j default).length) (hu:(p.tracks.getD j default).length≤u) (hur:u≤rows.length) (hfew:u≤f + 40):∃ q,Zsj p (ZvA rows n j f u)=some q∧Zvz w rows n me q:=by
 obtain ⟨q,q1,q2⟩:=Zv9 h.roll (j:=j) (f:=f) (u:=u) (by rw [h.tn];exact hj) (by rw [h.mine];omega) hf hu hur hfew
 rw [h.tn] at q1
 have hx:(ZvA rows n j f u).fr ≠ p.me∧(Zsk p (ZvA rows n j f u)).2=true:=by
  unfold Zsj at q1
  split at q1
  ·rename_i hc
   exact hc.2
  ·cases q1
 obtain ⟨r,r1,_,_,_,_,_,r7,_⟩:=Zul h.roll.good hx.1 hx.2
 rw [q1] at r1
 cases r1
 exact ⟨q,q1,q2,Zuo h.dl q1,q2.good.w0n.symm.trans (h.roll.good.w0n.trans h.tn),r7.trans h.mine⟩
theorem Zwh {rows:TS} {w:Wd} {k:Nat} (hk:k < rows.length):runS w (rows.take (k + 1))=ZbY (runS w (rows.take k)) (rows.getD k default):=by
 rw [List.take_succ_eq_append_getElem hk,ZvU,Zb6 hk]
 rfl
theorem Zwn {ts:TS} {b:Int} {w:Wd} {k:Nat}:runS w (Zbr ts b (k + 1))=ZbY (runS w (Zbr ts b k)) (rowV ts (b + (k:Int))).1:=by
 rw [ZnO,ZvU]
 rfl
theorem ZvY (w:Wd) (ts:TS) (hw:ZaV w) (hn:ts.length≤1048576) (v:Wd) (hv:v=runS w ts):AC Tryz.prog 22 [.agg [.t (.lst true 9 (Zai w.level)),.t (.int .i64 w.tick),.t (.int .i64 w.seed),.t (ints 3 w.scores),.t (.lst true 114 (w.bodies.map bodyC))],.t (.lst false 27 (ts.map trackC))] (.agg [.t (.lst true 9 (Zai v.level)),.t (.int .i64 v.tick),.t (.int .i64 v.seed),.t (ints 3 v.scores),.t (.lst true 114 (v.bodies.map bodyC))]):=by
 obtain ⟨g1,g2,g3⟩:=Zee hw
 have hcp:=Zft w g1 g2 g3
 have htl:(ts.map trackC).length=ts.length:=List.length_map _
 refine AC.go Tryz.func22 Tryz.ntmps22 fun B W hr=>?_
 repeat' (first|refine pa ?_|(refine pb ?_ ?_<;>intro hg)|(refine Zab (n:=20) ?_;(first|refine Zc5 hcp ?_))|refine po ?_|fail)
 refine aW.loopF rfl (fun q:Nat×Wd=>[(6,.t (.int .i64 q.1))]) [(5,_),(4,_),(1,_)] (fun q=>[(5,1,.box 30 [.t (.lst true 9 (Zai q.2.level)),.t (.int .i64 q.2.tick),.t (.int .i64 q.2.seed),.t (ints 3 q.2.scores),.t (.lst true 114 (q.2.bodies.map bodyC))])]) [(4,_,_)] (fun q=>q.1≤ts.length∧ZaV q.2∧q.2=runS w (ts.take q.1)) (fun q=>ts.length - q.1) (0,w) ⟨Nat.zero_le _,hw,rfl⟩ (by (exact plei)) ?_
 rintro ⟨k,u⟩ hI
 obtain ⟨hk,hu,hr⟩:k≤ts.length∧ZaV u∧u=runS w (ts.take k):=hI
 obtain ⟨l1,l2,l3⟩:=Zee hu
 refine pln ?_
 by_cases hkn:k < ts.length
 ·have hsw:=Zjk u (ts.getD k default) l1 l2 l3 _ rfl
  have hnx:=Zwh (w:=w) hkn
  rw [← hr] at hnx
  have hok:=step_ok (row:=ts.getD k default) hu
  generalize ZbY u (ts.getD k default)=u2 at hsw hnx hok
  clear hr
  repeat' (first|refine pa ?_|(refine pb ?_ ?_<;>intro hg)|(refine Zab (n:=20) ?_;(first|refine Zc5 hsw ?_))|refine po ?_|(refine pdr [] 7 (by (apply pct 7 127 0;(focus (intro hd3;(apply pct 7 63 1;(focus (intro hd2;(apply pct 7 31 2;(focus (intro hd1;(refine pt0_ 1 ?_<;>refine pt0_ 2 ?_<;>refine Za7 3 ?_<;>refine pt7_ 4 ?_<;>(refine pq1 0 ?_;(focus ((refine pop ?_;refine pk7 ?_)<;>(exact ptm hd1)))))));(case main=>((refine pq1 5 ?_;(focus ((refine pop ?_;(refine Zab (n:=20) ?_;(first|refine Zc5 hsw ?_)))<;>(exact ptm hd2)))))))));(case main=>((refine pq1 6 ?_;(focus ((refine pop ?_;refine pk8 ?_)<;>(exact ptm hd3)))))))));(case main=>((refine ZaI ?_;exact ZaJ))))) ?_)|fail)
  exact ⟨(k + 1,u2),⟨hkn,hok,hnx.symm⟩,by show ts.length - (k + 1) < ts.length - k;omega,by (exact ple)⟩
 ·obtain rfl:k=ts.length:=by omega
  rw [List.take_length,← hv] at hr
  subst hr
  repeat' (first|refine pa ?_|(refine pb ?_ ?_<;>intro hg)|refine po ?_|fail)
  exact pfg
theorem L56d1 {X Y:Prop} (h:Y) (r:Hld Y→X:=by intro h;(apply pdq 37;(focus exact pdp);(focus ((apply pct 37 17179869183 3;(focus (intro hd5;(apply pct 37 4194303 15;(focus (intro hd4;(apply pct 37 32767 22;(focus (intro hd3;(apply pct 37 1023 27;(focus (intro hd2;(apply pct 37 15 33;(focus (intro hd1;(refine pt7_ 0 ?_<;>refine ZaC 1 ?_<;>refine pt7_ 2 ?_<;>(refine pq1 3 ?_;(focus ((refine pop ?_;(refine Zab (n:=20) ?_;(first|refine Zaa hs1 ?_|refine Zaa hs2 ?_)))<;>(exact ptm hd1)))))));(case main=>(refine Zf9 4 ?_<;>refine pt0_ 5 ?_<;>refine pg7_ 6 ?_<;>refine ZaK 7 ?_<;>refine pg7_ 8 ?_<;>(refine pq1 9 ?_;(focus ((first|(refine pog ?_;(refine Zab (n:=20) ?_;(first|refine Zaa hs1 ?_|refine Zaa hs2 ?_)))|refine pon ?_)<;>(exact ptm hd2)))))))));(case main=>(refine ZnK 10 ?_<;>refine pt2_ 11 ?_<;>refine pt0_ 12 ?_<;>refine pg7_ 13 ?_<;>(refine pq1 14 ?_;(focus ((first|(refine pog ?_;(refine Zab (n:=20) ?_;(first|refine Zaa hpo ?_)))|refine pon ?_)<;>(exact ptm hd3)))))))));(case main=>(refine ZnK 15 ?_<;>refine pt2_ 16 ?_<;>refine pt0_ 17 ?_<;>refine pg7_ 18 ?_<;>refine ZaK 20 ?_<;>refine pg7_ 21 ?_<;>(refine pq1 19 ?_;(focus ((first|(refine pog ?_;(refine Zab (n:=20) ?_;(first|refine Zaa hlo ?_)))|refine pon ?_)<;>(exact ptm hd4)))))))));(case main=>(refine ZcA 22 ?_<;>refine pt2_ 23 ?_<;>refine pt0_ 24 ?_<;>refine ZaK 25 ?_<;>refine ZaK 26 ?_<;>refine pg7_ 27 ?_<;>refine ZaK 28 ?_<;>refine ZaK 29 ?_<;>refine pg7_ 30 ?_<;>refine ZaK 31 ?_<;>refine pg7_ 32 ?_<;>(refine pq1 33 ?_;(focus ((first|(refine pog ?_;(refine Zab (n:=20) ?_;(first|refine Zaa hkn ?_)))|refine pon ?_)<;>(exact ptm hd5)))))))));(case main=>(refine ZkT 34 ?_<;>refine ZcA 35 ?_<;>refine pt2_ 36 ?_<;>(refine ZaI ?_;exact ZaJ)))))));exact h.out):X:=r ⟨h⟩
theorem modNat {a:Int} {n:Nat} (h:0≤a) (hn:0 < n):∃ m:Nat,a.tmod (n:Int)=(m:Int)∧m < n:=by
 have e:a.tmod (n:Int)=a % n:=Int.tmod_eq_emod_of_nonneg h
 have m1:0≤a % (n:Int):=Int.emod_nonneg _ (by omega)
 have m2:a % (n:Int) < n:=Int.emod_lt_of_pos _ (by omega)
 exact ⟨(a % (n:Int)).toNat,by rw [e];omega,by omega⟩
theorem Zwi (e:TypeId) (n:Nat):ints e (List.replicate n 0)=.lst true e (List.replicate n [.int .i64 0]):=by simp [ints,Zak,intC]
theorem Zwc {rows:TS} {n j f:Nat}:(ZvA rows n j f f).ins=[]:=by simp [ZvA]
theorem Zwb {rows:TS} {n j f t:Nat} (h:f≤t):(ZvA rows n j f (t + 1)).ins=(ZvA rows n j f t).ins++[(rows.getD t default).getD j 0]:=by
 show (List.range (t + 1 - f)).map _=(List.range (t - f)).map _++_
 rw [show t + 1 - f=(t - f) + 1 by omega,List.range_succ,List.map_append]
 simp only [List.map_cons,List.map_nil]
 rw [show f + (t - f)=t by omega]
theorem snocI (zs:List Int) (y:Int):Zak (zs++[y])=Zak zs++[[T.int .i64 y]]:=by simp [Zak,intC]
theorem ZvS (xs:List Int):AC Tryz.prog 3 [.t (.lst true 5 (Zsm xs))] (.t (.bool true)):=by
 have hb:=Zvt xs
 by_cases hbig:1048576 < (xs.length:Int)
 ·rw [decide_eq_true hbig] at hb
  refine AC.go Tryz.func3 Tryz.ntmps3 fun B W hr=>?_
  repeat' (first|refine pa ?_|(refine pb ?_ ?_<;>intro hg)|(refine Zab (n:=20) ?_;(first|refine Zaa hb ?_))|refine po ?_|fail)
  exact pfr
 rw [decide_eq_false hbig] at hb
 have hxl:xs.length≤1048576:=by omega
 have h0:=ZvF xs 0 (by omega)
 have h1:=ZvF xs 1 (by omega)
 refine AC.go Tryz.func3 Tryz.ntmps3 fun B W hr=>?_
 obtain ⟨us,hus⟩:=hr
 obtain ⟨_,hcode⟩:=Zvq (ZaR hus (i:=0) rfl)
 clear hus
 have hcd:∀ j:Nat,0≤atV xs j∧atV xs j≤255:=fun j=>Zwd hcode j
 clear hcode
 repeat' (first|refine pa ?_|(refine pb ?_ ?_<;>intro hg)|(refine Zab (n:=20) ?_;(first|refine Zaa hb ?_|(refine Zp4 (m:=[]) (ZvX xs hxl) (fun x hx=>?_);refine pmk ?_)))|refine po ?_|fail)
 obtain ⟨w,ts⟩:=x
 obtain ⟨l,n,seed,hl,hn,hs,hw,hrl,hro⟩:=hx
 dsimp only at hw hrl hro
 dsimp only
 have e1:w.level=l:=by rw [hw];rfl
 have e2:w.seed=seed:=by rw [hw];rfl
 have hwp:ZaV w:=by rw [hw];exact ZtK hl hn hs
 have hwl:w.scores.length=n:=by rw [hw];exact List.length_replicate
 have hsl:=Zal w.scores
 rw [hwl] at hsl
 have htl:(ts.map trackC).length=ts.length:=List.length_map _
 have b0:0≤atV xs 0∧atV xs 0≤255:=hcd 0
 obtain ⟨me,hme,hmn⟩:=modNat b0.1 (show 0 < n by omega)
 have b1:0≤atV xs 1∧atV xs 1≤255:=hcd 1
 have ha:1≤1 + (atV xs 1).tmod 8∧1 + (atV xs 1).tmod 8≤8:=by
  have:(atV xs 1).tmod 8=atV xs 1 % 8:=Int.tmod_eq_emod_of_nonneg b1.1
  omega
 obtain ⟨k1,k2⟩:=Zwl (me:=me) hl hn hs hro hrl hmn ha
 have hnp:=Zv1 w.level n w.seed me 0 (1 + (atV xs 1).tmod 8) 0 0 0 (by rw [e1];have:=hl.n12;omega) (ZsD l n seed me 0 (1 + (atV xs 1).tmod 8) 0 0 0) (by rw [e1,e2,Zup,if_pos k1])
 rw [decide_eq_true (show ZsV w.level n w.seed me 0 (1 + (atV xs 1).tmod 8) 0 0 0 by rw [e1,e2];exact k1)] at hnp
 have hd0:Zvz w ts n me (ZsD l n seed me 0 (1 + (atV xs 1).tmod 8) 0 0 0):=⟨by rw [hw];exact k2,fun z hz=>(by cases hz),by show (List.replicate ((n:Int)).toNat (List.replicate ((0:Int)).toNat (0:Int))).length=n;rw [List.length_replicate,Int.toNat_natCast],rfl⟩
 generalize ZsD l n seed me 0 (1 + (atV xs 1).tmod 8) 0 0 0=p0 at hnp hd0
 clear k1 k2 hw e1 e2 hs hl
 repeat' (first|(refine pth ?_)|((fail_if_success (with_reducible show aW _ _ _ (Code.seq (Code.seq (Code.region 6 _ _) _) _) _ _));(fail_if_success (with_reducible show aW _ _ _ (Code.seq (Code.region 6 _ _) _) _ _));(fail_if_success (with_reducible show aW _ _ _ (Code.region 6 _ _) _ _));(first|refine pc ?_|(refine pbc ?_ ?_<;>intro hg)))|(first|refine pl ?_|(refine pbl ?_ ?_<;>intro hg))|(first|(refine Zab (n:=20) ?_;(first|refine Zaa h0 ?_))|refine po ?_)|fail)
 rw [hwl,hme]
 repeat' (first|refine pa ?_|(refine pb ?_ ?_<;>intro hg)|(refine Zab (n:=20) ?_;(first|refine Zaa h1 ?_|refine Zc5 hnp ?_))|refine po ?_|(refine pdr [3] 18 (by (apply pct 18 131071 1;(focus (intro hd14;(apply pct 18 36863 5;(focus (intro hd13;(apply pct 18 65535 2;(focus (intro hd12;(apply pct 18 34047 8;(focus (intro hd11;(apply pct 18 34815 6;(focus (intro hd10;(apply pct 18 4095 6;(focus (intro hd9;(apply pct 18 33023 9;(focus (intro hd8;(apply pct 18 33919 9;(focus (intro hd7;(apply pct 18 1279 9;(focus (intro hd6;(apply pct 18 33791 7;(focus (intro hd5;(apply pct 18 2047 7;(focus (intro hd4;(apply pct 18 32895 10;(focus (intro hd3;(apply pct 18 1151 10;(focus (intro hd2;(apply pct 18 255 10;(focus (intro hd1;(refine ZaC 0 ?_<;>refine pt7_ 1 ?_<;>refine pt0_ 2 ?_<;>refine ZaC 3 ?_<;>refine pt7_ 4 ?_<;>refine pt0_ 5 ?_<;>refine pt0_ 6 ?_<;>(refine pq3 7 10 15 ?_ ?_ ?_;(focus ((refine pop ?_;(refine Zab (n:=20) ?_;(first|refine Zaa h1 ?_)))<;>(exact ptm hd1)));(focus ((refine pop ?_;refine pk5 ?_)<;>(exact ptm hd2)));(focus ((refine pop ?_;refine pk3 ?_)<;>(exact ptm hd3)))))));(case main=>(refine Zbh 8 ?_<;>refine Zbh 9 ?_<;>(refine pq2 10 15 ?_ ?_;(focus ((refine pop ?_;refine pk5 ?_)<;>(exact ptm hd4)));(focus ((refine pop ?_;refine pk3 ?_)<;>(exact ptm hd5)))))))));(case main=>((refine pq2 7 15 ?_ ?_;(focus ((refine pop ?_;(refine Zab (n:=20) ?_;(first|refine Zaa h1 ?_)))<;>(exact ptm hd6)));(focus ((refine pop ?_;refine pk3 ?_)<;>(exact ptm hd7)))))))));(case main=>((refine pq2 7 10 ?_ ?_;(focus ((refine pop ?_;(refine Zab (n:=20) ?_;(first|refine Zaa h1 ?_)))<;>(exact ptm hd8)));(focus ((refine pop ?_;refine pk5 ?_)<;>(exact ptw hd7)))))))));(case main=>((refine pq2 11 15 ?_ ?_;(focus ((refine pop ?_;(refine Zab (n:=20) ?_;(first|refine Zc5 hnp ?_)))<;>(exact ptm hd9)));(focus ((refine pop ?_;refine pk3 ?_)<;>(exact ptm hd10)))))))));(case main=>((refine pq1 10 ?_;(focus ((refine pop ?_;refine pk5 ?_)<;>(exact ptw hd10)))))))));(case main=>(refine Zbh 8 ?_<;>refine Zbh 9 ?_<;>(refine pq2 11 15 ?_ ?_;(focus ((refine pop ?_;(refine Zab (n:=20) ?_;(first|refine Zc5 hnp ?_)))<;>(exact ptw hd9)));(focus ((refine pop ?_;refine pk3 ?_)<;>(exact ptw hd10)))))))));(case main=>((refine pq1 7 ?_;(focus ((refine pop ?_;(refine Zab (n:=20) ?_;(first|refine Zaa h1 ?_)))<;>(exact ptm hd11)))))))));(case main=>(refine Zbh 8 ?_<;>refine Zbh 9 ?_<;>(refine pq1 10 ?_;(focus ((refine pop ?_;refine pk5 ?_)<;>(exact ptw hd10)))))))));(case main=>(refine pt0_ 12 ?_<;>refine Zes 13 ?_<;>refine Zes 14 ?_<;>(refine pq1 15 ?_;(focus ((refine pop ?_;refine pk3 ?_)<;>(exact ptm hd12)))))))));(case main=>((refine pq1 11 ?_;(focus ((refine pop ?_;(refine Zab (n:=20) ?_;(first|refine Zc5 hnp ?_)))<;>(exact ptm hd13)))))))));(case main=>(refine Zbh 8 ?_<;>refine Zbh 9 ?_<;>(refine pq1 11 ?_;(focus ((refine pop ?_;(refine Zab (n:=20) ?_;(first|refine Zc5 hnp ?_)))<;>(exact ptw hd13)))))))));(case main=>((refine pq1 16 ?_;(focus ((refine pop ?_;refine pk8 ?_)<;>(exact ptm hd14)))))))));(case main=>(refine pt0_ 12 ?_<;>refine Zes 13 ?_<;>refine Zes 14 ?_<;>(refine pq1 16 ?_;(focus ((refine pop ?_;refine pk8 ?_)<;>(exact ptw hd14)))))))));(case main=>(refine pt1_ 17 ?_<;>(refine ZaI ?_;exact ZaJ))))) ?_)|fail)
 clear hb h0 h1 hnp ha b1 hme hsl
 refine aW.loopF rfl (fun q:Nat×Pr=>[(9,.t (.int .i64 q.1))]) [(0,_),(3,_),(4,_),(5,_),(6,_),(7,_),(8,_)] (fun q=>[(7,1,.box 40 [.t (.int .i64 q.2.me),.t (.int .i64 q.2.delay),.t (.int .i64 q.2.ahead),.t (.int .i64 q.2.seed),.t (.lst false 46 (q.2.tracks.map trackC)),.t (.lst true 9 (Zai q.2.base.level)),.t (.int .i64 q.2.base.tick),.t (.int .i64 q.2.base.seed),.t (ints 3 q.2.base.scores),.t (.lst true 114 (q.2.base.bodies.map bodyC)),.t (.lst true 9 (Zai q.2.now.level)),.t (.int .i64 q.2.now.tick),.t (.int .i64 q.2.now.seed),.t (ints 3 q.2.now.scores),.t (.lst true 114 (q.2.now.bodies.map bodyC)),.t (.lst false 27 (q.2.used.map trackC)),.t (.lst true 100 (q.2.saves.map saveC)),.t (ints 3 q.2.sums),.t (.int .i64 q.2.ft),.t (.int .i64 q.2.fp),.t (.int .i64 q.2.fa),.t (.int .i64 q.2.rolls),.t (.int .i64 q.2.again)])]) [(3,_,_)] (fun q=>q.1≤60∧Zvz w ts n me q.2) (fun q=>60 - q.1) (0,p0) ⟨Nat.zero_le _,hd0⟩ (by (exact plei)) ?_
 rintro ⟨k,p⟩ hI
 obtain ⟨hk,hd⟩:k≤60∧Zvz w ts n me p:=hI
 clear hd0
 refine pln ?_
 by_cases hk60:k < 60
 case neg =>
  repeat' (first|refine pa ?_|(refine pb ?_ ?_<;>intro hg)|refine po ?_|fail)
  exact pfr
 have hat:=ZvF xs k (by omega)
 repeat' (first|(refine pth ?_)|((fail_if_success (with_reducible show aW _ _ _ (Code.seq (Code.seq (Code.region 10 _ _) _) _) _ _));(fail_if_success (with_reducible show aW _ _ _ (Code.seq (Code.region 10 _ _) _) _ _));(fail_if_success (with_reducible show aW _ _ _ (Code.region 10 _ _) _ _));(first|refine pc ?_|(refine pbc ?_ ?_<;>intro hg)))|(first|refine pl ?_|(refine pbl ?_ ?_<;>intro hg))|(first|refine po ?_)|fail)
 refine aW.seqJ rfl (fun z:Pr=>[]) [(0,_),(3,_),(4,_),(5,_),(6,_),(7,_),(8,_),(9,_)] (fun z:Pr=>[(7,1,.box 40 [.t (.int .i64 z.me),.t (.int .i64 z.delay),.t (.int .i64 z.ahead),.t (.int .i64 z.seed),.t (.lst false 46 (z.tracks.map trackC)),.t (.lst true 9 (Zai z.base.level)),.t (.int .i64 z.base.tick),.t (.int .i64 z.base.seed),.t (ints 3 z.base.scores),.t (.lst true 114 (z.base.bodies.map bodyC)),.t (.lst true 9 (Zai z.now.level)),.t (.int .i64 z.now.tick),.t (.int .i64 z.now.seed),.t (ints 3 z.now.scores),.t (.lst true 114 (z.now.bodies.map bodyC)),.t (.lst false 27 (z.used.map trackC)),.t (.lst true 100 (z.saves.map saveC)),.t (ints 3 z.sums),.t (.int .i64 z.ft),.t (.int .i64 z.fp),.t (.int .i64 z.fa),.t (.int .i64 z.rolls),.t (.int .i64 z.again)])]) [(3,_,_)] (fun z:Pr=>Zvz w ts n me z) p (by (exact plei)) ?_ ?_
 ·obtain ⟨t1,t2,t3,t4⟩:=hd.ticks
  by_cases c1:p.now.tick < (ts.length:Int)
  case neg =>
   repeat' (first|refine pa ?_|(refine pb ?_ ?_<;>intro hg)|(refine Zab (n:=20) ?_;(first|refine Zaa hat ?_))|refine po ?_|fail)
   exact .inl ⟨rfl,p,hd,by (exact ple)⟩
  by_cases c2:(atV xs k).tmod 2=0
  case neg =>
   repeat' (first|refine pa ?_|(refine pb ?_ ?_<;>intro hg)|(refine Zab (n:=20) ?_;(first|refine Zaa hat ?_))|refine po ?_|fail)
   exact .inl ⟨rfl,p,hd,by (exact ple)⟩
  obtain ⟨tk,htk⟩:=Int.eq_ofNat_of_zero_le t3
  have htk2:tk < ts.length:=by omega
  obtain ⟨r1,r2⟩:=ZvT hro htk2
  have r3:=Zal (ts.getD tk default)
  have hd2:=hd.press c1
  rw [htk,Int.toNat_natCast] at hd2
  have hpr:=ZvQ p ((ts.getD tk default).getD me 0) hd.len _ rfl
  generalize Zsg p ((ts.getD tk default).getD me 0)=p2 at hpr hd2
  have had:=Zre p2 hd2.len hd2.dl _ rfl
  have hd3:=hd2.advance
  generalize (ZpB p2).getD p2=p3 at had hd3
  repeat' (first|refine pa ?_|(refine pb ?_ ?_<;>intro hg)|refine ZnM ?_|(refine Zab (n:=20) ?_;(first|refine Zaa hat ?_|refine Zc5 hpr ?_|refine Zc5 had ?_))|refine po ?_|(refine pdr [3] 15 (by (apply pct 15 32767 0;(focus (intro hd6;(apply pct 15 2047 4;(focus (intro hd5;(apply pct 15 1023 5;(focus (intro hd4;(apply pct 15 159 9;(focus (intro hd3;(apply pct 15 158 10;(focus (intro hd2;(apply pct 15 143 10;(focus (intro hd1;(refine pt0_ 1 ?_<;>refine ZaC 2 ?_<;>refine ZaC 3 ?_<;>refine pt0_ 7 ?_<;>(refine pq2 0 4 ?_ ?_;(focus ((refine pop ?_;refine pk7 ?_)<;>(exact ptm hd1)));(focus ((refine pop ?_;refine pk7 ?_)<;>(exact ptm hd2)))))));(case main=>((refine pq1 4 ?_;(focus ((refine pop ?_;refine pk7 ?_)<;>(exact ptm hd3)))))))));(case main=>((refine pti 5 ?_;(first|refine ZrQ ?_|refine pq17 ?_))<;>refine pt7_ 6 ?_<;>(refine pti 8 ?_;(first|refine ZrQ ?_|refine pq17 ?_))<;>refine pt7_ 9 ?_<;>(refine pq1 0 ?_;(focus ((refine pop ?_;refine pk7 ?_)<;>(exact ptm hd4)))))))));(case main=>((refine pti 5 ?_;(first|refine ZrQ ?_|refine pq17 ?_))<;>refine pt7_ 6 ?_<;>(refine pti 8 ?_;(first|refine ZrQ ?_|refine pq17 ?_))<;>refine pt7_ 9 ?_<;>(refine pq1 10 ?_;(focus ((refine pop ?_;(refine Zab (n:=20) ?_;(first|refine Zc5 hpr ?_)))<;>(exact ptm hd5)))))))));(case main=>((refine pq1 10 ?_;(focus ((refine pop ?_;(refine Zab (n:=20) ?_;(first|refine Zc5 hpr ?_)))<;>(exact ptw hd5)))))))));(case main=>(refine pt0_ 11 ?_<;>refine Zes 12 ?_<;>refine Zes 13 ?_<;>(refine pq1 14 ?_;(focus ((refine pop ?_;refine pk8 ?_)<;>(exact ptm hd6)))))))));(case main=>((refine ZaI ?_;exact ZaJ))))) ?_)|fail)
  exact .inl ⟨rfl,p3,hd3,by (exact ple)⟩
 clear hat hd
 rintro p hd
 have hd:Zvz w ts n me p:=hd
 refine pln ?_
 obtain ⟨t1,t2,t3,t4⟩:=hd.ticks
 have htn:=hd.tn
 have hat2:=ZvF xs ((k:Int) + 2) (by omega)
 have b2:=hcd (k + 2)
 rw [show ((k + 2:Nat):Int)=(k:Int) + 2 by omega] at b2
 obtain ⟨who,hwho,hwn⟩:=modNat b2.1 (show 0 < n by omega)
 repeat' (first|(refine pth ?_)|((fail_if_success (with_reducible show aW _ _ _ (Code.seq (Code.seq (Code.region 14 _ _) _) _) _ _));(fail_if_success (with_reducible show aW _ _ _ (Code.seq (Code.region 14 _ _) _) _ _));(fail_if_success (with_reducible show aW _ _ _ (Code.region 14 _ _) _ _));(first|refine pc ?_|(refine pbc ?_ ?_<;>intro hg)))|(first|refine pl ?_|(refine pbl ?_ ?_<;>intro hg))|(first|(refine Zab (n:=20) ?_;(first|refine Zaa hat2 ?_))|refine po ?_)|fail)
 rw [hwho]
 clear hat2 b2 hwho
 have hpt:(p.tracks.map trackC).length=p.tracks.length:=List.length_map _
 have hwt:who < p.tracks.length:=by omega
 have hke:=Zal (p.tracks.getD who default)
 repeat' (first|(refine pth ?_)|((fail_if_success (with_reducible show aW _ _ _ (Code.seq (Code.seq (Code.region 15 _ _) _) _) _ _));(fail_if_success (with_reducible show aW _ _ _ (Code.seq (Code.region 15 _ _) _) _ _));(fail_if_success (with_reducible show aW _ _ _ (Code.region 15 _ _) _ _));(first|refine pc ?_|(refine pbc ?_ ?_<;>intro hg)))|(first|refine pl ?_|(refine pbl ?_ ?_<;>intro hg))|(first|refine po ?_)|fail)
 obtain ⟨f,hf⟩:∃ f,(p.tracks.getD who default).length=f:=⟨_,rfl⟩
 have hkt:=(hd.roll.fits who hwt).1
 rw [hf] at hke hkt ⊢
 have hat3:=ZvF xs ((k:Int) + 3) (by omega)
 have b3:=hcd (k + 3)
 rw [show ((k + 3:Nat):Int)=(k:Int) + 3 by omega] at b3
 have m3:(atV xs ((k:Int) + 3)).tmod 4=atV xs ((k:Int) + 3) % 4:=Int.tmod_eq_emod_of_nonneg b3.1
 obtain ⟨u,hu⟩:∃ u:Nat,(if (f:Int) + (atV xs ((k:Int) + 3)).tmod 4 < (ts.length:Int) then (f:Int) + (atV xs ((k:Int) + 3)).tmod 4 else (ts.length:Int))=(u:Int):=⟨(if (f:Int) + (atV xs ((k:Int) + 3)).tmod 4 < (ts.length:Int) then (f:Int) + (atV xs ((k:Int) + 3)).tmod 4 else (ts.length:Int)).toNat,by split<;>omega⟩
 have hu1:u≤ts.length∧u≤f + 3:=by split at hu<;>omega
 repeat' (first|(refine pth ?_)|((fail_if_success (with_reducible show aW _ _ _ (Code.seq (Code.seq (Code.region 16 _ _) _) _) _ _));(fail_if_success (with_reducible show aW _ _ _ (Code.seq (Code.region 16 _ _) _) _ _));(fail_if_success (with_reducible show aW _ _ _ (Code.region 16 _ _) _ _));(first|refine pc ?_|(refine pbc ?_ ?_<;>intro hg)))|(first|refine pl ?_|(refine pbl ?_ ?_<;>intro hg))|(first|(refine Zab (n:=20) ?_;(first|refine Zaa hat3 ?_))|refine po ?_)|fail)
 rw [hu]
 clear hat3 b3 m3 hu
 refine aW.seqJ rfl (fun z:Pr=>[]) [(0,_),(3,_),(4,_),(5,_),(6,_),(7,_),(8,_),(9,_)] (fun z:Pr=>[(7,1,.box 40 [.t (.int .i64 z.me),.t (.int .i64 z.delay),.t (.int .i64 z.ahead),.t (.int .i64 z.seed),.t (.lst false 46 (z.tracks.map trackC)),.t (.lst true 9 (Zai z.base.level)),.t (.int .i64 z.base.tick),.t (.int .i64 z.base.seed),.t (ints 3 z.base.scores),.t (.lst true 114 (z.base.bodies.map bodyC)),.t (.lst true 9 (Zai z.now.level)),.t (.int .i64 z.now.tick),.t (.int .i64 z.now.seed),.t (ints 3 z.now.scores),.t (.lst true 114 (z.now.bodies.map bodyC)),.t (.lst false 27 (z.used.map trackC)),.t (.lst true 100 (z.saves.map saveC)),.t (ints 3 z.sums),.t (.int .i64 z.ft),.t (.int .i64 z.fp),.t (.int .i64 z.fa),.t (.int .i64 z.rolls),.t (.int .i64 z.again)])]) [(3,_,_)] (fun z:Pr=>Zvz w ts n me z) p (by (exact plei)) ?_ ?_
 ·by_cases c1:(who:Int)=(me:Int)
  ·repeat' (first|refine pa ?_|(refine pb ?_ ?_<;>intro hg)|refine po ?_|fail)
   exact .inl ⟨rfl,p,hd,by (exact ple)⟩
  by_cases c2:(f:Int) < (u:Int)
  case neg =>
   repeat' (first|refine pa ?_|(refine pb ?_ ?_<;>intro hg)|refine po ?_|fail)
   exact .inl ⟨rfl,p,hd,by (exact ple)⟩
  by_cases c3:(u:Int)≤p.now.tick + 6
  case neg =>
   repeat' (first|refine pa ?_|(refine pb ?_ ?_<;>intro hg)|refine po ?_|fail)
   exact .inl ⟨rfl,p,hd,by (exact ple)⟩
  have hat4:=ZvF xs ((k:Int) + 4) (by omega)
  have b4:=hcd (k + 4)
  rw [show ((k + 4:Nat):Int)=(k:Int) + 4 by omega] at b4
  have m4:(atV xs ((k:Int) + 4)).tmod 3=atV xs ((k:Int) + 4) % 3:=Int.tmod_eq_emod_of_nonneg b4.1
  obtain ⟨f0,hf0⟩:∃ f0:Nat,(if (0:Int) < (f:Int) - (atV xs ((k:Int) + 4)).tmod 3 then (f:Int) - (atV xs ((k:Int) + 4)).tmod 3 else 0)=(f0:Int):=⟨(if (0:Int) < (f:Int) - (atV xs ((k:Int) + 4)).tmod 3 then (f:Int) - (atV xs ((k:Int) + 4)).tmod 3 else 0).toNat,by split<;>omega⟩
  have hf1:f0≤f∧f≤f0 + 2:=by split at hf0<;>omega
  repeat' (first|(refine pth ?_)|((fail_if_success (with_reducible show aW _ _ _ (Code.seq (Code.seq (Code.region 18 _ _) _) _) _ _));(fail_if_success (with_reducible show aW _ _ _ (Code.seq (Code.region 18 _ _) _) _ _));(fail_if_success (with_reducible show aW _ _ _ (Code.region 18 _ _) _ _));(first|refine pc ?_|(refine pbc ?_ ?_<;>intro hg)))|(first|refine pl ?_|(refine pbl ?_ ?_<;>intro hg))|(first|(refine Zab (n:=20) ?_;(first|refine Zaa hat4 ?_))|refine po ?_)|fail)
  rw [hf0]
  clear hat4 b4 m4 hf0
  obtain ⟨q,q1,q2⟩:=hd.learn (j:=who) (f:=f0) (u:=u) hwn (by omega) (by omega) (by omega) hu1.1 (by omega)
  have hln:=Zvi p (ZvA ts n who f0 u) hd.len hd.dl _ rfl
  rw [q1,show (ZvA ts n who f0 u).acks=List.replicate n 0 from rfl,Zwi] at hln
  dsimp only [Option.getD_some,Option.isSome_some] at hln
  repeat' (first|refine pa ?_|(refine pb ?_ ?_<;>intro hg)|refine po ?_|fail)
  refine aW.nilcell (o:=14) (i:=500) (k:=3) true 3 rfl rfl rfl rfl rfl ?_
  refine aW.loopF rfl (fun q:Nat×Nat×List Int=>[(15,.t (.int .i64 q.1))]) [(0,_),(3,_),(4,_),(5,_),(6,_),(7,_),(8,_),(9,_),(10,_),(12,_),(14,_)] (fun q=>[(14,1,.box 48 [.t (.int .i64 who),.t (.int .i64 0),.t (.int .i64 f0),.hnd 500 q.2.1,.hnd 138 1,.t (.int .i64 0),.t (.int .i64 0),.t (.int .i64 0),.t (.int .i64 0)]),(500,q.2.1,.row true true 3 (Zak q.2.2))]) [(3,_,_),(7,_,_),(138,_,_)] (fun q=>(f0≤q.1∧q.1≤u)∧q.2.2=(ZvA ts n who f0 q.1).ins) (fun q=>u - q.1) (f0,1,[]) ⟨⟨Nat.le_refl _,by show f0≤u;omega⟩,Zwc.symm⟩ (by (exact plei)) ?_
  rintro ⟨t,ep,zs⟩ hI
  obtain ⟨⟨hft,htu⟩,hzs⟩:(f0≤t∧t≤u)∧zs=(ZvA ts n who f0 t).ins:=hI
  have hel:=Zal zs
  have hrl2:zs.length=t - f0:=by rw [hzs];exact ZvD
  refine pln ?_
  by_cases htu2:t < u
  ·have htk2:t < ts.length:=by omega
   obtain ⟨r1,r2⟩:=ZvT hro htk2
   have r3:=Zal (ts.getD t default)
   have hst:=Zwb (rows:=ts) (n:=n) (j:=who) hft
   rw [← hzs] at hst
   repeat' (first|refine pa ?_|(refine pb ?_ ?_<;>intro hg)|refine po ?_|(refine pdr [3,7] 13 (by (apply pct 13 8191 0;(focus (intro hd5;(apply pct 13 2047 2;(focus (intro hd4;(apply pct 13 1023 3;(focus (intro hd3;(apply pct 13 1021 4;(focus (intro hd2;(apply pct 13 511 4;(focus (intro hd1;(refine ZaC 0 ?_<;>refine pt0_ 2 ?_<;>refine pt0_ 3 ?_<;>refine Za7 4 ?_<;>refine pt7_ 5 ?_<;>refine pt0_ 6 ?_<;>refine Za7 7 ?_<;>refine pt7_ 8 ?_<;>(refine pq2 1 9 ?_ ?_;(focus ((refine pop ?_;refine pk7 ?_)<;>(exact ptm hd1)));(focus ((refine pop ?_;refine pk6 ?_)<;>(exact ptm hd2)))))));(case main=>((refine pq1 9 ?_;(focus ((refine pop ?_;refine pk6 ?_)<;>(exact ptm hd3)))))))));(case main=>((refine pq1 1 ?_;(focus ((refine pop ?_;refine pk7 ?_)<;>(exact ptw hd3)))))))));(case main=>((refine pq1 10 ?_;(focus ((refine pop ?_;refine pk20 ?_)<;>(exact ptm hd4)))))))));(case main=>(refine ZaC 11 ?_<;>(refine pq1 12 ?_;(focus ((refine pop ?_;refine pk8 ?_)<;>(exact ptm hd5)))))))));(case main=>((refine ZaI ?_;exact ZaJ))))) ?_)|fail)
   exact ⟨(t + 1,ep + 1,zs++[(ts.getD t default).getD who 0]),⟨⟨by show f0≤t + 1;omega,htu2⟩,hst.symm⟩,by show u - (t + 1) < u - t;omega,by rw [snocI];(exact ple)⟩
  ·obtain rfl:t=u:=by omega
   rw [← hzs] at hln
   repeat' (first|refine pa ?_|(refine pb ?_ ?_<;>intro hg)|(refine Zab (n:=20) ?_;(first|refine Zc5 hln ?_))|refine po ?_|fail)
   exact .inl ⟨rfl,q,q2,by (exact ple)⟩
 clear hpt hwt hke hf hu1 hwn htn t1 t2 t3 t4 hd
 rintro p0 hd0
 have hd0:Zvz w ts n me p0:=hd0
 refine pln ?_
 have hcf:=ZrG p0 hd0.len hd0.dl _ rfl
 have hd:=hd0.confirm
 have hbt:=(ZvL hd0.roll).2
 generalize confirmV p0=p at hcf hd hbt
 obtain ⟨t1,t2,t3,t4⟩:=hd.ticks
 have hpp:=hd.roll.good.ok
 have hpl:=hd.len
 have hb0:=hpp.base.tick.1
 have hus:=hpp.used
 have hld:=hpp.lead
 obtain ⟨b,hb⟩:=Int.eq_ofNat_of_zero_le hb0
 obtain ⟨g1,g2⟩:=Zwf hd.roll
 rw [hb,Int.toNat_natCast] at g1 g2
 have hR:(ts.drop (0:Int).toNat).take (p.base.tick.toNat - (0:Int).toNat)=ts.take b:=by rw [hb];rfl
 have hrw:=ZvY w ((ts.drop (0:Int).toNat).take (p.base.tick.toNat - (0:Int).toNat)) hwp (by rw [hR,List.length_take];omega) p.base (by rw [hR];exact g1)
 have g3:=Zwm hd.roll
 have hs1:=Ztv p.base (Zee hpp.base).2.2
 have hs2:=Ztv p.now (Zee hpp.now).2.2
 have hpo:=Zgp p hpl.tracks.1
 rw [Zbq.2 hpp] at hpo
 have hlo:=Zv6 p hpl
 rw [show Zwe p=p.now.tick - p.base.tick from if_pos (Zbq.2 hpp)] at hlo
 have hkn:=ZdD p.tracks
 clear hd0 hwp g1
 repeat' (first|refine pa ?_|(refine pb ?_ ?_<;>intro hg)|refine ZnM ?_|(refine Zab (n:=20) ?_;(first|refine Zc5 hcf ?_|refine Zc5 hrw ?_))|refine po ?_|(refine pdr [3,7] 9 (by (apply pct 9 511 0;(focus (intro hd4;(apply pct 9 255 1;(focus (intro hd3;(apply pct 9 191 2;(focus (intro hd2;(apply pct 9 127 2;(focus (intro hd1;(refine pt7_ 0 ?_<;>refine pt0_ 1 ?_<;>refine ZaC 2 ?_<;>refine ZaC 3 ?_<;>refine pt7_ 4 ?_<;>refine ZkV 5 ?_<;>(refine pq2 6 7 ?_ ?_;(focus ((refine pop ?_;(refine Zab (n:=20) ?_;(first|refine Zc5 hrw ?_)))<;>(exact ptm hd1)));(focus ((refine pop ?_;refine pk3 ?_)<;>(exact ptm hd2)))))));(case main=>((refine pq1 7 ?_;(focus ((refine pop ?_;refine pk3 ?_)<;>(exact ptm hd3)))))))));(case main=>((refine pq1 6 ?_;(focus ((refine pop ?_;(refine Zab (n:=20) ?_;(first|refine Zc5 hrw ?_)))<;>(exact ptw hd3)))))))));(case main=>((refine pq1 8 ?_;(focus ((refine pop ?_;refine pk8 ?_)<;>(exact ptm hd4)))))))));(case main=>((refine ZaI ?_;exact ZaJ))))) ?_)|fail)
 clear hcf hrw
 refine aW.loopF rfl (fun q:Int×Nat×Wd=>[(20,.t (.int .i64 q.1))]) [(0,_),(3,_),(4,_),(5,_),(6,_),(7,_),(8,_),(9,_),(18,_),(19,_)] (fun q=>[(19,1,.box 30 [.t (.lst true 9 (Zai q.2.2.level)),.t (.int .i64 q.2.2.tick),.t (.int .i64 q.2.2.seed),.t (ints 3 q.2.2.scores),.t (.lst true 114 (q.2.2.bodies.map bodyC)) ])]) [(3,_,_),(7,_,_),(18,_,_)] (fun q=>q.1=p.base.tick + (q.2.1:Int)∧q.2.1≤p.used.length∧ZaV q.2.2∧q.2.2=runS p.base (Zbr p.tracks p.base.tick q.2.1)) (fun q=>p.used.length - q.2.1) (p.base.tick,0,p.base) ⟨by show p.base.tick=p.base.tick + ((0:Nat):Int);omega,Nat.zero_le _,hpp.base,rfl⟩ (by (exact plei)) ?_
 rintro ⟨t,j,u⟩ hI
 obtain ⟨ht,hj,hup,hu⟩:t=p.base.tick + (j:Int)∧j≤p.used.length∧ZaV u∧u=runS p.base (Zbr p.tracks p.base.tick j):=hI
 obtain ⟨l1,l2,l3⟩:=Zee hup
 refine pln ?_
 by_cases hjl:j < p.used.length
 ·have hra:=Zn8 p.tracks t
  have hnx:=Zwn (ts:=p.tracks) (b:=p.base.tick) (w:=p.base) (k:=j)
  rw [← hu,← ht] at hnx
  have hok:=step_ok (row:=(rowV p.tracks t).1) hup
  have hsw:=Zjk u (rowV p.tracks t).1 l1 l2 l3 _ rfl
  generalize ZbY u (rowV p.tracks t).1=u2 at hsw hnx hok
  clear hu hup g3
  repeat' (first|refine pa ?_|(refine pb ?_ ?_<;>intro hg)|(refine Zab (n:=20) ?_;(first|refine Zc5 hra ?_|refine Zc5 hsw ?_))|refine po ?_|fail)
  exact ⟨(t + 1,j + 1,u2),⟨by show t + 1=p.base.tick + ((j + 1:Nat):Int);omega,hjl,hok,hnx.symm⟩,by show p.used.length - (j + 1) < p.used.length - j;omega,by (exact ple)⟩
 ·obtain rfl:j=p.used.length:=by omega
  rw [← g3] at hu
  subst hu
  have hdd:=hd
  clear hup
  by_cases hmin:Zbe p.tracks < p.now.tick
  ·have hbe:p.base.tick=Zbe p.tracks:=by omega
   repeat' (first|refine pa ?_|(refine pb ?_ ?_<;>intro hg)|(refine Zab (n:=20) ?_;(first|refine Zaa hs1 ?_|refine Zaa hs2 ?_|refine Zaa hpo ?_|refine Zaa hlo ?_|refine Zaa hkn ?_))|refine po ?_|(refine L56d1 ?_)|fail)
   exact ⟨(k + 1,p),⟨hk60,hdd⟩,by show 60 - (k + 1) < 60 - k;omega,by (exact ple)⟩
  ·have hbe:p.base.tick=p.now.tick:=by omega
   repeat' (first|refine pa ?_|(refine pb ?_ ?_<;>intro hg)|(refine Zab (n:=20) ?_;(first|refine Zaa hs1 ?_|refine Zaa hs2 ?_|refine Zaa hpo ?_|refine Zaa hlo ?_|refine Zaa hkn ?_))|refine po ?_|(refine L56d1 ?_)|fail)
   exact ⟨(k + 1,p),⟨hk60,hdd⟩,by show 60 - (k + 1) < 60 - k;omega,by (exact ple)⟩
theorem ZvV (xs:(TY.slice 5 (.int .u8)).V):AC Tryz.prog 3 [TY.arg (.slice 5 (.int .u8)) xs] (.t (.bool true)):=ZvS xs
open Go.ChangeShapes Go.WideShapes
theorem ZvH (os:Os) (started:os.Started) (H:Type) (enc:TypeId×Value→H) :
  ReturnsInHanded {} Tryz.checked os 3 .any (Rows.fnRollbackSpec.pre6 enc Tryz.prog Tryz.f3 Rows.fnRollbackRow.domain false) (Rows.fnRollbackSpec.post enc Tryz.prog Tryz.f3 false true false false):=by
 refine ZjB (C:=Tryz.checked) Tryz.own started (by kernel_rfl) Tryz.func3 Tryz.laidOut (by kernel_rfl) (tb:=4) rfl Tryz.underlying4 rfl ?_
  (ChangeSpec.witness6 (enc:=enc) (C:=Tryz.checked) false ⟨#[],#[.slice none 0 0],[]⟩ 8 (by kernel_rfl) (by kernel_rfl) (by kernel_rfl) (by kernel_rfl)) ?_
 ·intro W vs ds ps hA
  have hA:DataW.TrodAll enc Tryz.prog W 0 (fun _=>true) true Tryz.f3.params.toList vs ds ps:=hA
  rw [Tryz.params3] at hA
  obtain ⟨v0,vs0,d0,ds0,p0,q0,rfl,rfl,rfl,h0,r0⟩:=trodAll_cons hA
  obtain ⟨rfl,rfl,rfl⟩:=trodAll_nil r0
  rfl
 ·intro W base args ds p hok0 hA hlt
  have hA:DataW.TrodAll enc Tryz.prog W 0 (fun _=>true) true Tryz.f3.params.toList args.toList ds p:=hA
  have hok:∀ (j:Nat) t v,Tryz.f3.params[j]?=some t→args[j]?=some v→Value.okWide Tryz.prog W .any base t v:=hok0
  clear hok0
  rw [Tryz.params3] at hA hok
  obtain ⟨args⟩:=args
  obtain ⟨v0,vs0,d0,ds0,p0,q0,hv0,rfl,rfl,h0,r0⟩:=trodAll_cons hA
  have hv0:args=v0 :: vs0:=hv0;subst hv0
  obtain ⟨rfl,rfl,rfl⟩:=trodAll_nil r0
  obtain ⟨cs0,y0,g0,rfl⟩:=Ze3 (T:=(.slice 5 (.int .u8))) (by kernel_rfl) (hok 0 _ _ rfl rfl) h0
  clear hok hA hlt
  exact ZoH (ZvV y0) (Ab.Pw.cons (ZiB (t:=(.slice 5 (.int .u8))) (by kernel_rfl) g0 rfl) Ab.Pw.nil)
theorem ZvG:joinedFacts Tryz.prog 3 Tryz.f3 Rows.fnRollbackSpec Rows.fnRollbackRow=true:=by
 simp only [joinedFacts,Bool.and_eq_true]
 exact ⟨⟨⟨⟨⟨⟨⟨⟨⟨⟨⟨⟨⟨⟨⟨⟨⟨⟨⟨⟨⟨⟨⟨⟨⟨⟨⟨⟨⟨⟨⟨(by as_aux_lemma=>kernel_rfl),(by as_aux_lemma=>kernel_rfl)⟩,(by as_aux_lemma=>kernel_rfl)⟩,(by as_aux_lemma=>kernel_rfl)⟩,(by as_aux_lemma=>kernel_rfl)⟩,(by as_aux_lemma=>kernel_rfl)⟩,(by as_aux_lemma=>kernel_rfl)⟩,(by as_aux_lemma=>kernel_rfl)⟩,(by as_aux_lemma=>kernel_rfl)⟩,(by as_aux_lemma=>kernel_rfl)⟩,(by as_aux_lemma=>kernel_rfl)⟩,(by as_aux_lemma=>kernel_rfl)⟩,(by as_aux_lemma=>kernel_rfl)⟩,(by as_aux_lemma=>kernel_rfl)⟩,(by as_aux_lemma=>kernel_rfl)⟩,(by as_aux_lemma=>kernel_rfl)⟩,(by as_aux_lemma=>kernel_rfl)⟩,(by as_aux_lemma=>kernel_rfl)⟩,(by as_aux_lemma=>kernel_rfl)⟩,(by as_aux_lemma=>kernel_rfl)⟩,(by as_aux_lemma=>kernel_rfl)⟩,(by as_aux_lemma=>kernel_rfl)⟩,(by as_aux_lemma=>kernel_rfl)⟩,(by as_aux_lemma=>kernel_rfl)⟩,(by as_aux_lemma=>kernel_rfl)⟩,Tryz.mayEnter⟩,(ZhJ Tryz.liftsFinal)⟩,(Zl5 Tryz.make)⟩,(by as_aux_lemma=>kernel_rfl)⟩,(by as_aux_lemma=>kernel_rfl)⟩,(by as_aux_lemma=>kernel_rfl)⟩,(by as_aux_lemma=>kernel_rfl)⟩
theorem FnRollback_holds:Rows.FnRollbackSaid :=
 OpenClaim.holds_of_wide 3 Tryz.f3 rfl rfl rfl rfl rfl rfl rfl ⟨rfl,rfl,rfl,rfl,rfl⟩ rfl rfl rfl rfl rfl (by kernel_rfl) Tryz.func3 ZvG
  (of_decide_eq_true (by kernel_rfl)) (by unfold Func.isWrapper;first|(rw [if_pos (by decide +kernel)];kernel_rfl)|(rw [if_neg (by decide +kernel)];exact ⟨rfl,rfl⟩))
  (fun os started H enc _=>ZvH os started H enc)
end Go.Proofs.YthfaongbpdnlnaaGreat
