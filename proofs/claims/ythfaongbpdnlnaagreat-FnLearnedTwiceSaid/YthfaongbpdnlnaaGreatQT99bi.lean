/- What is proved: contracts on advancing by a tick. Conditions: as each lemma says. -/
import Derived.Test.YthfaongbpdnlnaaGreatQPC
import Derived.Test.YthfaongbpdnlnaaGreatQAbsVf
import Derived.Test.YthfaongbpdnlnaaGreatT23uc
import Derived.Test.YthfaongbpdnlnaaGreatQT103
namespace Go.Proofs.YthfaongbpdnlnaaGreat
set_option maxHeartbeats 4000000
set_option maxRecDepth 20000
set_option linter.unusedSimpArgs false
set_option linter.unusedVariables false
open Go.RowKit Ab
theorem Zi3 (xs:List Int) (h:xs.length≤1048576):AC Tryz.prog 207 [.agg [.t (ints 3 xs)]] (.agg [.fr true 3 (Zak xs)]):=by
 have hi:=Zex xs h
 refine AC.go Tryz.func207 Tryz.ntmps207 fun B W hr=>?_
 repeat' (first|refine pa ?_|(refine pb ?_ ?_<;>intro hg)|(refine z9 ?_;(refine pz3 hi ?_))|refine po ?_|fail)
 exact pfg
theorem Zij (ts:TS) (hn:ts.length≤1048576) (hx:∀ k,k < ts.length→(ts.getD k default).length≤1048576):AC Tryz.prog 148 [.t (.lst false 46 (ts.map trackC))] (.fr false 46 (ts.map trackC)):=by
 refine AC.go Tryz.func148 Tryz.ntmps148 fun B W hr=>?_
 repeat' (first|refine pa ?_|(refine pb ?_ ?_<;>intro hg)|refine po ?_|fail)
 refine aW.nilrow (s:=3) (i:=500) false 46 rfl rfl ?_
 refine aW.loopF rfl (fun q:Nat×Nat×List (List T)=>[(8,.t (.int .i64 q.1)),(3,.hnd 500 q.2.1)]) [(7,_),(6,_)] (fun q=>[(500,q.2.1,.row false true 46 q.2.2)]) [] (fun q=>q.1≤ts.length∧q.2.2=(ts.take q.1).map trackC) (fun q=>ts.length - q.1) (0,1,[]) ⟨Nat.zero_le _,rfl⟩ (by (exact plei)) ?_
 rintro ⟨k,ep,els⟩ hI
 obtain ⟨hk,he⟩:k≤ts.length∧els=(ts.take k).map trackC:=hI
 subst he
 have hel2:(ts.take k).length=k:=by rw [List.length_take];omega
 have hel:((ts.take k).map trackC).length=k:=by rw [List.length_map,hel2]
 refine pln ?_
 by_cases hkn:k < ts.length
 ·have ht:=Zi3 (ts.getD k default) (hx k hkn)
  repeat' (first|refine pa ?_|(refine pb ?_ ?_<;>intro hg)|(refine z9 ?_;(refine pz3 ht ?_))|refine po ?_|fail)
  exact ⟨(k + 1,ep + 1,_),⟨hkn,(Zeg hkn).symm⟩,by show ts.length - (k + 1) < ts.length - k;omega,by (exact ple)⟩
 ·repeat' (first|refine pa ?_|(refine pb ?_ ?_<;>intro hg)|refine po ?_|fail)
  have hk':k=ts.length:=by omega
  subst hk'
  rw [List.take_length]
  exact pfg
theorem ZjZ (ts:TS) (hn:ts.length≤1048576) (hx:∀ k,k < ts.length→(ts.getD k default).length≤1048576):AC Tryz.prog 149 [.t (.lst false 27 (ts.map trackC))] (.fr false 27 (ts.map trackC)):=by
 refine AC.go Tryz.func149 Tryz.ntmps149 fun B W hr=>?_
 repeat' (first|refine pa ?_|(refine pb ?_ ?_<;>intro hg)|refine po ?_|fail)
 refine aW.nilrow (s:=3) (i:=500) false 27 rfl rfl ?_
 refine aW.loopF rfl (fun q:Nat×Nat×List (List T)=>[(8,.t (.int .i64 q.1)),(3,.hnd 500 q.2.1)]) [(7,_),(6,_)] (fun q=>[(500,q.2.1,.row false true 27 q.2.2)]) [] (fun q=>q.1≤ts.length∧q.2.2=(ts.take q.1).map trackC) (fun q=>ts.length - q.1) (0,1,[]) ⟨Nat.zero_le _,rfl⟩ (by (exact plei)) ?_
 rintro ⟨k,ep,els⟩ hI
 obtain ⟨hk,he⟩:k≤ts.length∧els=(ts.take k).map trackC:=hI
 subst he
 have hel2:(ts.take k).length=k:=by rw [List.length_take];omega
 have hel:((ts.take k).map trackC).length=k:=by rw [List.length_map,hel2]
 refine pln ?_
 by_cases hkn:k < ts.length
 ·have ht:=Zex (ts.getD k default) (hx k hkn)
  repeat' (first|refine pa ?_|(refine pb ?_ ?_<;>intro hg)|(refine z9 ?_;(refine pz3 ht ?_))|refine po ?_|fail)
  exact ⟨(k + 1,ep + 1,_),⟨hkn,(Zeg hkn).symm⟩,by show ts.length - (k + 1) < ts.length - k;omega,by (exact ple)⟩
 ·repeat' (first|refine pa ?_|(refine pb ?_ ?_<;>intro hg)|refine po ?_|fail)
  have hk':k=ts.length:=by omega
  subst hk'
  rw [List.take_length]
  exact pfg
theorem ZjY (p:Pr) (h:Zeq p):AC Tryz.prog 67 [.agg (pcR p)] (.agg (pcF p)):=by
 have g1:=Zij p.tracks h.tracks.1 h.tracks.2
 have g2:=Zc1 p.base h.base.1 h.base.2.1 h.base.2.2
 have g3:=Zc1 p.now h.now.1 h.now.2.1 h.now.2.2
 have g4:=ZjZ p.used h.used.1 h.used.2
 have g6:=Zex p.sums h.sums
 have hl:(p.saves.map saveC).length=p.saves.length:=List.length_map _
 have hl2:=h.saves
 refine AC.go Tryz.func67 Tryz.ntmps67 fun B W hr=>?_
 dsimp only [pcR,pcF]
 repeat' (first|refine pa ?_|(refine pb ?_ ?_<;>intro hg)|(refine z9 ?_;(first|refine pz3 g1 ?_|refine pz3 g2 ?_|refine pz3 g3 ?_|refine pz3 g4 ?_|refine pz3 g6 ?_))|refine po ?_|fail)
 all_goals refine pfin ?_
 (exact pgiv)
theorem Zqn (p:Pr) (hp:Zeq p):AC Tryz.prog 68 [.agg (pcR p)] (.t (.bool (ZnB p))):=by
 have hpo:=Zgp p hp.tracks.1
 dsimp only [pcR] at hpo
 unfold ZnB
 by_cases c:Zb9 p=true
 ·rw [c] at hpo ⊢
  obtain ⟨n1,n2,n3,n4,n5,n6,hme,hm,n9,n10⟩:=ZqO (Zbq.1 c)
  generalize p.me.toNat=m at hme hm ⊢
  by_cases c1:(p.used.length:Int) < p.ahead
  ·rw [decide_eq_true c1]
   refine AC.go Tryz.func68 Tryz.ntmps68 fun B W hr=>?_
   dsimp only [pcR]
   repeat' (first|refine pa ?_|(refine pb ?_ ?_<;>intro hg)|refine ZnM ?_|(refine z9 ?_;(refine Zaa hpo ?_))|refine po ?_|(refine ZrL ?_)|fail)
   exact pfr
  ·rw [decide_eq_false c1]
   refine AC.go Tryz.func68 Tryz.ntmps68 fun B W hr=>?_
   dsimp only [pcR]
   repeat' (first|refine pa ?_|(refine pb ?_ ?_<;>intro hg)|refine ZnM ?_|(refine z9 ?_;(refine Zaa hpo ?_))|refine po ?_|(refine ZrL ?_)|fail)
   exact pfr
 ·rw [Bool.not_eq_true] at c
  rw [c] at hpo ⊢
  refine AC.go Tryz.func68 Tryz.ntmps68 fun B W hr=>?_
  dsimp only [pcR]
  repeat' (first|refine pa ?_|(refine pb ?_ ?_<;>intro hg)|(refine z9 ?_;(refine Zaa hpo ?_))|refine po ?_|(refine ZrL ?_)|fail)
  exact pfr
theorem ZqH (p:Pr) (hp:Zeq p):AC Tryz.prog 50 [.agg (pcR p)] (.t (.int .i64 (ZdR p))):=by
 have hpo:=Zgp p hp.tracks.1
 dsimp only [pcR] at hpo
 unfold ZdR
 by_cases c:Zb9 p=true
 ·rw [if_pos c]
  rw [c] at hpo
  obtain ⟨n1,n2,n3,n4,n5,n6,hme,hm,n9,n10⟩:=ZqO (Zbq.1 c)
  refine AC.go Tryz.func50 Tryz.ntmps50 fun B W hr=>?_
  dsimp only [pcR]
  repeat' (first|refine pa ?_|(refine pb ?_ ?_<;>intro hg)|(refine z9 ?_;(refine Zaa hpo ?_))|refine po ?_|fail)
  refine aW.loopF rfl (fun q:Nat=>[(13,.t (.int .i64 (q:Nat)))]) [(12,_),(11,_),(1,_)] (fun q=>[]) [(1,_,_)] (fun q=>q≤p.used.length∧Zpu p.tracks p.base.tick p.used (p.used.length - q) q=Zpu p.tracks p.base.tick p.used p.used.length 0) (fun q=>p.used.length - q) 0 ⟨Nat.zero_le _,rfl⟩ (by (exact plei)) ?_
  rintro q hI
  obtain ⟨hq,hg⟩:q≤p.used.length∧Zpu p.tracks p.base.tick p.used (p.used.length - q) q=Zpu p.tracks p.base.tick p.used p.used.length 0:=hI
  refine pln ?_
  by_cases hqn:q < p.used.length
  ·have hra:=ZjX p.tracks (p.base.tick + (q:Int))
   have hqe:=Zr3 (rowV p.tracks (p.base.tick + (q:Int))).1 (p.used.getD q default)
   by_cases hx:(rowV p.tracks (p.base.tick + (q:Int))).1=p.used.getD q default
   ·rw [decide_eq_true hx] at hqe
    repeat' (first|refine pa ?_|(refine pb ?_ ?_<;>intro hg)|(refine z9 ?_;(first|refine Zaa hqe ?_|refine Zc5 hra ?_))|refine po ?_|fail)
    exact ⟨q + 1,⟨hqn,by rw [← Zq4 hqn hx];exact hg⟩,by show p.used.length - (q + 1) < p.used.length - q;omega,by (exact ple)⟩
   ·rw [decide_eq_false hx] at hqe
    rw [← hg,Zq5 hqn hx]
    repeat' (first|refine pa ?_|(refine pb ?_ ?_<;>intro hg)|(refine z9 ?_;(first|refine Zaa hqe ?_|refine Zc5 hra ?_))|refine po ?_|fail)
    exact pfr
  ·obtain rfl:q=p.used.length:=by omega
   rw [← hg,Zrl]
   repeat' (first|refine pa ?_|(refine pb ?_ ?_<;>intro hg)|refine po ?_|fail)
   exact pfr
 ·rw [if_neg c]
  rw [Bool.not_eq_true] at c
  rw [c] at hpo
  refine AC.go Tryz.func50 Tryz.ntmps50 fun B W hr=>?_
  dsimp only [pcR]
  repeat' (first|refine pa ?_|(refine pb ?_ ?_<;>intro hg)|(refine z9 ?_;(refine Zaa hpo ?_))|refine po ?_|fail)
  exact pfr
section
variable {c:Bool} {s t acc:List UInt8} {f:Nat} {p z m u:Int}
theorem Zqd (hp:p < s.length) (hd:Zag s p=(z,m,true)) (hb:20000 - (acc.length:Int) < z):unpZ c s (f + 1) p acc=none:=by
 rw [unpZ,if_pos hp,hd]
 simp only []
 split
 ·rw [if_pos (.inl (by omega))]
 ·rfl
theorem ZeY {a b:List UInt8}:Zao a++Zao b=Zao (a++b):=by
 unfold Zao
 rw [List.map_append]
end
theorem Zev (s:List UInt8):AC Tryz.prog 184 [.t (.str s)] (.tup [.t (.str ((ZaN s).getD [])),.t (.bool (ZaN s).isSome)]):=by
 have hmx:maxLen=9223372036854775807:=rfl
 refine AC.go Tryz.func184 Tryz.ntmps184 fun B W hr=>?_
 obtain ⟨us,hus⟩:=hr
 have hl:=ZeK (ZaR hus (i:=0) rfl)
 clear hus
 repeat' (first|refine pa ?_|(refine pb ?_ ?_<;>intro hg)|refine po ?_|fail)
 refine aW.nilrow (s:=4) (i:=60) true 5 rfl rfl ?_
 refine aW.loopF rfl (fun q:Int×Nat×List (List T)=>[(5,.t (.int .i64 q.1)),(4,.hnd 60 q.2.1)]) [(0,_)] (fun q=>[(60,q.2.1,.row true true 5 q.2.2)]) [] (fun q=>0≤q.1∧q.1≤s.length∧∃ acc,q.2.2=Zao acc∧acc.length≤20000∧∃ f:Nat,(s.length:Int) + 1≤f + q.1∧unpZ true s f q.1 acc=unpZ true s (s.length + 1) 0 []) (fun q=>(s.length - q.1).toNat) (0,1,[]) ⟨by decide,by show (0:Int)≤s.length;omega,[],rfl,by simp,s.length + 1,by show (s.length:Int) + 1≤((s.length + 1:Nat):Int) + 0;omega,rfl⟩ (by (exact plei)) ?_
 rintro ⟨p,ep,els⟩ hI
 obtain ⟨hp0,hp1,acc,he,ha,f,hf,hu⟩:0≤p∧p≤s.length∧∃ acc,els=Zao acc∧acc.length≤20000∧∃ f:Nat,(s.length:Int) + 1≤f + p∧unpZ true s f p acc=unpZ true s (s.length + 1) 0 []:=hI
 subst he
 refine pln ?_
 obtain ⟨f,rfl⟩:∃ g,f=g + 1:=⟨f - 1,by omega⟩
 have hal:=Zc8 (s:=acc)
 by_cases hps:p < s.length
 ·have hdv:=ZbM s p
  rcases hd:Zag s p with ⟨z,m,ok⟩
  rw [hd] at hdv
  dsimp only at hdv
  cases ok with
  | false =>
   rw [Zpo hps hd] at hu
   rw [Za9 hu.symm]
   repeat' (first|refine pa ?_|(refine pb ?_ ?_<;>intro hg)|(refine z9 ?_;(refine Zaa hdv ?_))|refine po ?_|fail)
   all_goals refine pfin ?_
   all_goals (exact pgiv)
  | true =>
   obtain ⟨_,g2,g3,g4,g5,g6,_⟩:=Zav hd
   by_cases hov:20000 - (acc.length:Int) < z
   ·rw [Zqd hps hd hov] at hu
    rw [Za9 hu.symm]
    repeat' (first|refine pa ?_|(refine pb ?_ ?_<;>intro hg)|(refine z9 ?_;(refine Zaa hdv ?_))|refine po ?_|fail)
    all_goals refine pfin ?_
    all_goals (exact pgiv)
   have htv:=Zih s (p + m)
   match ht:ZaY s (p + m) with
   | none =>
    rw [Znk hps hd ht] at hu
    rw [Za9 hu.symm]
    rw [Zlf ht] at htv
    dsimp only at htv
    repeat' (first|refine pa ?_|(refine pb ?_ ?_<;>intro hg)|(refine z9 ?_;(first|refine Zaa hdv ?_|refine Zaa htv ?_))|refine po ?_|fail)
    all_goals refine pfin ?_
    all_goals (exact pgiv)
   | some (t,u) =>
    obtain ⟨k1,k2,k3,_⟩:=Zem ht
    rw [Zlg ht] at htv
    dsimp only at htv
    rw [Zpn hps hd ht] at hu
    by_cases hov2:20000 - (acc.length:Int) < z + (t.length:Int)
    ·rw [if_pos (.inl hov2)] at hu
     rw [Za9 hu.symm]
     repeat' (first|refine pa ?_|(refine pb ?_ ?_<;>intro hg)|(refine z9 ?_;(first|refine Zaa hdv ?_|refine Zaa htv ?_))|refine po ?_|fail)
     all_goals refine pfin ?_
     all_goals (exact pgiv)
    by_cases h0:z=0∧t.length=0
    ·rw [if_pos (.inr ⟨rfl,h0⟩)] at hu
     rw [Za9 hu.symm]
     repeat' (first|refine pa ?_|(refine pb ?_ ?_<;>intro hg)|(refine z9 ?_;(first|refine Zaa hdv ?_|refine Zaa htv ?_))|refine po ?_|fail)
     refine OpS.append_zeros (xs:=9) rfl rfl rfl rfl (Tryz.ti rfl) rfl (Tryz.ti rfl) rfl (Tryz.ti rfl) rfl (Tryz.ti rfl) rfl rfl rfl rfl rfl rfl g2 (by rw [hal];omega) ?_
     rw [Zib,ZeY]
     have hzl:(Zao (acc++List.replicate z.toNat 0)).length=acc.length + z.toNat:=by rw [Zc8,List.length_append,List.length_replicate]
     repeat' (first|refine pa ?_|(refine pb ?_ ?_<;>intro hg)|refine po ?_|fail)
     all_goals refine pfin ?_
     all_goals (exact pgiv)
    ·rw [if_neg (by intro h;rcases h with h|h;exact hov2 h;exact h0 h.2)] at hu
     repeat' (first|refine pa ?_|(refine pb ?_ ?_<;>intro hg)|(refine z9 ?_;(first|refine Zaa hdv ?_|refine Zaa htv ?_))|refine po ?_|fail)
     refine OpS.append_zeros (xs:=9) rfl rfl rfl rfl (Tryz.ti rfl) rfl (Tryz.ti rfl) rfl (Tryz.ti rfl) rfl (Tryz.ti rfl) rfl rfl rfl rfl rfl rfl g2 (by rw [hal];omega) ?_
     rw [Zib,ZeY]
     have hzl:(Zao (acc++List.replicate z.toNat 0)).length=acc.length + z.toNat:=by rw [Zc8,List.length_append,List.length_replicate]
     by_cases hz:z=0
     ·have ht0:t.length ≠ 0:=fun e=>h0 ⟨hz,e⟩
      repeat' (first|refine pa ?_|(refine pb ?_ ?_<;>intro hg)|refine po ?_|fail)
      exact ⟨(p + m + u,_,_),⟨by show 0≤p + m + u;omega,by show p + m + u≤s.length;omega,_,ZeY (b:=t),by rw [List.length_append,List.length_append,List.length_replicate];omega,f,by show (s.length:Int) + 1≤f + (p + m + u);omega,hu⟩,by show (s.length - (p + m + u)).toNat < (s.length - p).toNat;omega,by (exact ple)⟩
     ·repeat' (first|refine pa ?_|(refine pb ?_ ?_<;>intro hg)|refine po ?_|fail)
      exact ⟨(p + m + u,_,_),⟨by show 0≤p + m + u;omega,by show p + m + u≤s.length;omega,_,ZeY (b:=t),by rw [List.length_append,List.length_append,List.length_replicate];omega,f,by show (s.length:Int) + 1≤f + (p + m + u);omega,hu⟩,by show (s.length - (p + m + u)).toNat < (s.length - p).toNat;omega,by (exact ple)⟩
 ·rw [Zni hps] at hu
  have hpk:=Zi0 acc (by omega)
  rw [← Zbf (s:=acc)] at hpk
  rw [show Zau ((Zao acc).map Ab.byteOf)=Zau acc by rw [Zbf]] at hpk
  by_cases heq:Zau acc=s
  ·rw [ZeT hu.symm heq]
   repeat' (first|refine pa ?_|(refine pb ?_ ?_<;>intro hg)|(refine z9 ?_;(refine Zaa hpk ?_))|refine po ?_|fail)
   all_goals first
    | (exfalso;simp [heq] at hg;done)
    | (refine pfin ?_;exact ⟨.inl (congrArg T.str (Zbf _)),.inl rfl,trivial⟩)
  ·rw [Zfq hu.symm heq]
   repeat' (first|refine pa ?_|(refine pb ?_ ?_<;>intro hg)|(refine z9 ?_;(refine Zaa hpk ?_))|refine po ?_|fail)
   all_goals first
    | (exfalso;simp [heq] at hg;done)
    | (refine pfin ?_;(exact pgiv);done)
theorem Zqs (a b:List UInt8) (hb:b.length≤1048576):AC Tryz.prog 70 [.t (.str a),.t (.str b)] (.t (.str (Zkl a b))):=by
 have hmx:maxLen=9223372036854775807:=rfl
 have hv:=Zcb (b.length:Int)
 have hvl:=ZaA (b.length:Int)
 have hx:=Zlr a b hb
 have hz:=Zi0 (ZbB a b) (by rw [ZcL];exact hb)
 have hzl:=Zqv (ZbB a b)
 rw [ZcL] at hzl
 refine AC.go Tryz.func70 Tryz.ntmps70 fun B W hr=>?_
 repeat' (first|refine pa ?_|(refine pb ?_ ?_<;>intro hg)|(refine z9 ?_;(first|refine Zaa hv ?_|refine Zaa hx ?_|refine Zaa hz ?_))|refine po ?_|fail)
 exact pfr
theorem Zid (a d:List UInt8) (hd:d.length≤1048576):AC Tryz.prog 104 [.t (.str a),.t (.str d)] (.tup [.t (.str ((Zar a d).getD [])),.t (.bool (Zar a d).isSome)]):=by
 have hv:=ZbM d 0
 rcases hdv:Zag d 0 with ⟨n,m,ok⟩
 rw [hdv] at hv
 dsimp only at hv
 cases ok with
 | false =>
  rw [show Zar a d=none by unfold Zar;rw [hdv]]
  refine AC.go Tryz.func104 Tryz.ntmps104 fun B W hr=>?_
  repeat' (first|refine pa ?_|(refine pb ?_ ?_<;>intro hg)|(refine z9 ?_;(refine Zaa hv ?_))|refine po ?_|fail)
  all_goals refine pfin ?_
  all_goals (exact pgiv)
 | true =>
  obtain ⟨_,g2,g3,g4,g5,g6,_⟩:=Zav hdv
  obtain ⟨k,rfl⟩:=Int.eq_ofNat_of_zero_le (show 0≤m by omega)
  have hkl:k≤d.length:=by omega
  have htk:List.take ((d.length:Int).toNat - (k:Int).toNat) (List.drop (k:Int).toNat d)=d.drop k:=by
   rw [Int.toNat_natCast,Int.toNat_natCast]
   exact List.take_of_length_le (by rw [List.length_drop];exact Nat.le_refl _)
  have hu:AC Tryz.prog 184 [.t (.str (d.drop k))] (.tup [.t (.str ((ZaN (d.drop k)).getD [])),.t (.bool (ZaN (d.drop k)).isSome)]):=by
   first
    | exact Zev _
    | exact Zev _ (by rw [List.length_drop];omega)
  match hz:ZaN (d.drop k) with
  | none =>
   rw [show Zar a d=none by unfold Zar;rw [hdv];simp only [Int.toNat_natCast,hz]]
   rw [hz,← htk] at hu
   dsimp only [Option.getD_none,Option.isSome_none] at hu
   refine AC.go Tryz.func104 Tryz.ntmps104 fun B W hr=>?_
   repeat' (first|refine pa ?_|(refine pb ?_ ?_<;>intro hg)|(refine z9 ?_;(first|refine Zaa hv ?_|refine Zaa hu ?_))|refine po ?_|fail)
   all_goals refine pfin ?_
   all_goals (exact pgiv)
  | some x =>
   have hxl:=(ZcK hz).2
   have hx:=Zlr a x (by omega)
   rw [show Zar a d=if (x.length:Int)=n then some (ZbB a x) else none by unfold Zar;rw [hdv];simp only [Int.toNat_natCast,hz]]
   rw [hz,← htk] at hu
   dsimp only [Option.getD_some,Option.isSome_some] at hu
   by_cases hn:(x.length:Int)=n
   ·rw [if_pos hn]
    refine AC.go Tryz.func104 Tryz.ntmps104 fun B W hr=>?_
    repeat' (first|refine pa ?_|(refine pb ?_ ?_<;>intro hg)|(refine z9 ?_;(first|refine Zaa hv ?_|refine Zaa hu ?_|refine Zaa hx ?_))|refine po ?_|fail)
    all_goals first
     | (exfalso;simp [hn] at hg;done)
     | (refine pfin ?_;(exact pgiv);done)
   ·rw [if_neg hn]
    refine AC.go Tryz.func104 Tryz.ntmps104 fun B W hr=>?_
    repeat' (first|refine pa ?_|(refine pb ?_ ?_<;>intro hg)|(refine z9 ?_;(first|refine Zaa hv ?_|refine Zaa hu ?_|refine Zaa hx ?_))|refine po ?_|fail)
    all_goals first
     | (exfalso;simp [hn] at hg;done)
     | (refine pfin ?_;(exact pgiv);done)
theorem ZqR (p:Pr) (hp:Zeq p) (hd:Zc0 p) (h1:ZnB p=true) (h0:p.saves.length=0) (v:Pr) (hv:v=(ZpB p).getD p):advS 19 p v (ZpB p).isSome:=by
 unfold advS
 have hcp:=ZjY p hp
 dsimp only [pcR,pcF] at hcp
 have hca:=Zqn p hp
 dsimp only [pcR] at hca
 rw [h1] at hca
 obtain ⟨hpp,hu8,hmt⟩:=Zqj h1
 have hsl:(p.saves.map saveC).length=p.saves.length:=List.length_map _
 have hul:(p.used.map trackC).length=p.used.length:=List.length_map _
 have hse:=hpp.saves
 have hus:=hpp.used
 have hld:=hpp.lead
 have hah:=hpp.ahead
 have hps:=hp.saves
 have hbt:=hpp.base.tick
 have hnt:=hpp.now.tick
 have hra:=ZjX p.tracks p.now.tick
 obtain ⟨l1,l2,l3⟩:=hp.now
 have hfs:=Zif p.now (Zpc p) p.ft p.fp p.fa l1 l2 l3 (Zqy p) rfl
 have hwn:=Zii p.now
 rw [show (rowV p.tracks p.now.tick).1=Zpc p from rfl] at hra
 rw [ZqK h1 h0] at hv ⊢
 have hwb:=Zii p.base
 have hdt:=Zqs (Zbp p.base) (Zbp p.now) (by have:=ZgG (w:=p.now);omega)
 dsimp only [Option.getD_some,Option.isSome_some] at hv ⊢
 unfold Zq1 at hv
 rw [hv]
 dsimp only
 rw [List.map_append,List.map_append]
 generalize Zqy p=nw at hfs ⊢
 generalize Zpc p=rw at hfs hra ⊢
 generalize Zbp p.now=bn at hwn hdt ⊢
 generalize Zbp p.base=bb at hwb hdt ⊢
 refine AC.go Tryz.func19 Tryz.ntmps19 fun B W hr=>?_
 repeat' (first|(refine pth ?_)|((fail_if_success (with_reducible first|refine pA1 13 ?_|refine pA2 13 ?_|refine pA3 13 ?_));(first|refine pc ?_|(refine pbc ?_ ?_<;>intro hg)))|(first|refine pl ?_|(refine pbl ?_ ?_<;>intro hg))|(first|refine ZaX ?_|(refine z9 ?_;(first|refine Zaa hca ?_|refine Zaa hwn ?_|refine Zaa hwb ?_|refine Zaa hdt ?_|refine pz3 hcp ?_|refine pz3 hra ?_))|refine po ?_)|((apply pdq 7;(focus exact pdp);(focus ((apply pct 7 63 1;(focus (intro hd3;(apply pct 7 31 2;(focus (intro hd2;(apply pct 7 15 3;(focus (intro hd1;(refine pt7_ 0 ?_<;>refine ZaC 2 ?_<;>refine pt7_ 3 ?_<;>(refine pq1 1 ?_;(focus ((refine pop ?_;(refine z9 ?_;(first|refine Zaa hwn ?_|refine Zaa hwb ?_)))<;>(exact ptm hd1)))))));(case main=>((refine pq1 4 ?_;(focus ((refine pop ?_;(refine z9 ?_;(first|refine Zaa hwn ?_|refine Zaa hwb ?_)))<;>(exact ptm hd2)))))))));(case main=>((refine pq1 5 ?_;(focus ((refine pop ?_;(refine z9 ?_;(refine Zaa hdt ?_)))<;>(exact ptm hd3)))))))));(case main=>(refine pt1_ 6 ?_<;>(refine ZaI ?_;exact ZaJ))))))))|(refine pdr [1] 17 (by (apply pct 17 65535 1;(focus (intro hd5;(apply pct 17 18431 5;(focus (intro hd4;(apply pct 17 32767 2;(focus (intro hd3;(apply pct 17 17407 6;(focus (intro hd2;(apply pct 17 2047 6;(focus (intro hd1;(refine pt7_ 0 ?_<;>refine ZaC 1 ?_<;>refine pt7_ 2 ?_<;>refine ZaC 3 ?_<;>refine pt7_ 4 ?_<;>refine Ziv 5 ?_<;>refine Zbh 6 ?_<;>refine Za7 7 ?_<;>refine ZaC 8 ?_<;>refine pt7_ 9 ?_<;>(refine pq2 10 14 ?_ ?_;(focus ((refine pop ?_;(refine z9 ?_;(fail)))<;>(exact ptm hd1)));(focus ((refine pop ?_;refine pk3 ?_)<;>(exact ptm hd2)))))));(case main=>(refine pt0_ 11 ?_<;>refine Zes 12 ?_<;>refine Zes 13 ?_<;>(refine pq1 14 ?_;(focus ((refine pop ?_;refine pk3 ?_)<;>(exact ptm hd3)))))))));(case main=>((refine pq1 10 ?_;(focus ((refine pop ?_;(refine z9 ?_;(fail)))<;>(exact ptm hd4)))))))));(case main=>((refine pq1 15 ?_;(focus ((refine pop ?_;refine pk8 ?_)<;>(exact ptm hd5)))))))));(case main=>(refine pt0_ 11 ?_<;>refine Zes 12 ?_<;>refine Zes 13 ?_<;>(refine pq1 15 ?_;(focus ((refine pop ?_;refine pk8 ?_)<;>(exact ptw hd5)))))))));(case main=>(refine pt1_ 16 ?_<;>(refine ZaI ?_;exact ZaJ))))) ?_)|fail)
 (repeat refine pa ?_)
 refine pk15 ?_
 (repeat refine pa ?_)
 refine pk7 ?_
 (repeat refine pa ?_)
 refine pk0 ?_
 (repeat refine pa ?_)
 refine Zab (n:=6) ?_
 refine OpS.lit_hole rfl rfl rfl (Tryz.ti rfl) rfl (Tryz.ti rfl) rfl rfl rfl rfl rfl ?_
 (repeat refine pa ?_)
 refine z9 ?_
 refine OpS.append_hole rfl rfl rfl rfl (Tryz.ti rfl) rfl (Tryz.ti rfl) (.inr ⟨_,_,_,rfl⟩) (Tryz.ti rfl) rfl rfl rfl rfl rfl rfl rfl (by constructor<;>omega) ?_
 repeat' (first|(refine pth ?_)|((fail_if_success (with_reducible first|refine pA1 15 ?_|refine pA2 15 ?_|refine pA3 15 ?_));(first|refine pc ?_|(refine pbc ?_ ?_<;>intro hg)))|(first|refine pl ?_|(refine pbl ?_ ?_<;>intro hg))|(first|(refine z9 ?_;(refine pz3 hfs ?_))|refine po ?_)|fail)
 refine aW.ghost (Zco.close (o:=12015) (j:=47000) (s:=1) (c:=0) (i:=p.used.length) rfl rfl (by decide) (by have h:Zac Tryz.prog 27=some _:=Tryz.ti rfl;exact ZeD h) (by rw [hul];omega) (by decide) (by rw [List.length_append,hul];exact Nat.lt_succ_self _) (ZqM hul)) ?_
 dsimp only [St.upds,updl]
 repeat' (first|refine pa ?_|(refine pb ?_ ?_<;>intro hg)|refine po ?_|fail)
 exact pfg
end Go.Proofs.YthfaongbpdnlnaaGreat
