/- What is proved: contracts on runs of zeros read from bytes, program and reference alike.
   Conditions: none. -/
import Derived.Test.YthfaongbpdnlnaaGreatAbsVc
namespace Go.Proofs.YthfaongbpdnlnaaGreat
set_option maxHeartbeats 4000000
set_option maxRecDepth 20000
set_option linter.unusedSimpArgs false
set_option linter.unusedVariables false
open Go.RowKit Ab
theorem Zkw {xs:List Int} (h:Zbl xs=true) {k:Nat} (hk:k < xs.length):0≤xs[k]∧xs[k]≤15:=by
 unfold Zbl at h
 exact Zae.1 (List.all_eq_true.1 h _ (List.getElem_mem hk))
theorem Zl4 (zs:List Int) (y:Int):Zak (zs++[y])=Zak zs++[[T.int .i64 y]]:=by simp [Zak,intC]
def ZaD (t:List Int) (tick:Int):Int:=if ZaH t=false∨tick < 0 then -1 else if tick < t.length then t.getD tick.toNat default else if t.length=0 then 0 else t.getD (t.length - 1) default % 4
theorem and_3n {x:Int} (h0:0≤x) (h1:x≤15):bits .and .i64 x 3=x % 4:=by
 obtain ⟨n,rfl⟩:=Int.eq_ofNat_of_zero_le h0
 have hn:n≤15:=by omega
 have:∀ m:Nat,m≤15→bits .and .i64 (m:Int) 3=(m:Int) % 4:=by decide
 exact this n hn
theorem Zeh {xs:List Int} (h:ZaH xs=true) {k:Nat} (hk:k < xs.length):0≤xs.getD k default∧xs.getD k default≤15:=by
 unfold ZaH at h
 rw [Bool.and_eq_true] at h
 rw [Zb6 hk]
 exact Zkw h.2 hk
theorem Zlo (t:List Int) (tick:Int):AC Tryz.prog 151 [.agg [.t (ints 3 t)],.t (.int .i64 tick)] (.t (.int .i64 (ZaD t tick))):=by
 have hok:=Zhj t
 by_cases h1:ZaH t=false∨tick < 0
 ·rw [show ZaD t tick=-1 from if_pos h1]
  refine AC.go Tryz.func151 Tryz.ntmps151 fun B W hr=>?_
  repeat' (first|refine pa ?_|(refine pb ?_ ?_<;>intro hg)|(refine pz9 ?_;(first|refine Zaa hok ?_))|refine po ?_|fail)
  all_goals first
   | (refine pfin ?_;exact .inl rfl)
   | (exfalso;rcases h1 with h1|h1<;>simp_all<;>omega)
 ·have h2:ZaH t=true:=by cases h:ZaH t<;>simp_all
  have h3:0≤tick:=by omega
  rw [h2] at hok
  have h400:=Zei h2
  by_cases h4:tick < t.length
  ·rw [show ZaD t tick=t.getD tick.toNat default by rw [ZaD,if_neg h1,if_pos h4]]
   obtain ⟨m,rfl⟩:=Int.eq_ofNat_of_zero_le h3
   have hm:m < t.length:=by omega
   refine AC.go Tryz.func151 Tryz.ntmps151 fun B W hr=>?_
   repeat' (first|refine pa ?_|(refine pb ?_ ?_<;>intro hg)|(refine pz9 ?_;(first|refine Zaa hok ?_))|refine po ?_|fail)
   exact pfr
  ·by_cases h5:t.length=0
   ·rw [show ZaD t tick=0 by rw [ZaD,if_neg h1,if_neg h4,if_pos h5]]
    refine AC.go Tryz.func151 Tryz.ntmps151 fun B W hr=>?_
    repeat' (first|refine pa ?_|(refine pb ?_ ?_<;>intro hg)|(refine pz9 ?_;(first|refine Zaa hok ?_))|refine po ?_|fail)
    all_goals first
     | (refine pfin ?_;exact .inl rfl)
     | (exfalso;omega)
   ·obtain ⟨m,hm⟩:∃ m,t.length=m + 1:=⟨t.length - 1,by omega⟩
    have hat:=Zeh h2 (k:=m) (by omega)
    rw [show ZaD t tick=t.getD m default % 4 by rw [ZaD,if_neg h1,if_neg h4,if_neg h5,hm];rfl,← and_3n hat.1 hat.2]
    refine AC.go Tryz.func151 Tryz.ntmps151 fun B W hr=>?_
    repeat' (first|refine pa ?_|(refine pb ?_ ?_<;>intro hg)|(refine pz9 ?_;(first|refine Zaa hok ?_))|refine po ?_|fail)
    all_goals try (exfalso;omega)
    have hget:(Zak t).getD (((t.length:Nat):Int) - 1).toNat []=[T.int .i64 (t.getD m default)]:=by
     rw [show (((t.length:Nat):Int) - 1).toNat=m by omega]
     exact getD_map (by omega)
    refine OpS.load_rptr (cs:=[T.int .i64 (t.getD m default)]) (off:=0) rfl (congrArg (fun c=>V.rptr c 0) hget) (Tryz.ti rfl) rfl ?_
    repeat' (first|refine pa ?_|(refine pb ?_ ?_<;>intro hg)|refine po ?_|fail)
    exact pfr
def ZdF (m:Int) (t:List Int):Int:=if (t.length:Int) < m then t.length else m
def minOf (a:Int) (ts:TS):Int:=ts.foldl ZdF a
theorem ZgC {a:Int} {ts:TS} {k:Nat} (h:k < ts.length):minOf a (ts.take (k + 1))=ZdF (minOf a (ts.take k)) (ts.getD k default):=by
 rw [List.take_succ_eq_append_getElem h,minOf,List.foldl_append,Zb6 h]
 rfl
theorem ZjD {t:Int}:∀ {ts:TS} {a:Int},t < minOf a ts↔t < a∧∀ x ∈ ts,t < (x.length:Int)
 | [],a=>by simp [minOf]
 | x :: r,a=>by
  show t < minOf (ZdF a x) r↔_
  rw [ZjD,ZdF]
  constructor
  ·rintro ⟨h1,h2⟩
   split at h1
   ·exact ⟨by omega,fun y hy=>by rcases List.mem_cons.1 hy with rfl|hy;exact h1;exact h2 y hy⟩
   ·exact ⟨h1,fun y hy=>by rcases List.mem_cons.1 hy with rfl|hy;omega;exact h2 y hy⟩
  ·rintro ⟨h1,h2⟩
   have h3:=h2 x (by simp)
   refine ⟨?_,fun y hy=>h2 y (by simp [hy])⟩
   split<;>omega
def Zbe (ts:TS):Int:=if Zan ts=true then minOf ((ts.getD 0 default).length:Int) ts else 0
def allKnown (ts:TS) (tick:Int):Bool:=ts.all fun t=>decide (tick < (t.length:Int))
theorem ZeC {ts:TS} {tick:Int}:allKnown ts tick=true↔∀ x ∈ ts,tick < (x.length:Int):=by simp [allKnown]
theorem ZjA {ts:TS} (h:Zan ts=true) (tick:Int):decide (tick < Zbe ts)=allKnown ts tick:=by
 rw [Bool.eq_iff_iff,decide_eq_true_eq,ZeC,Zbe,if_pos h,ZjD]
 refine ⟨fun h=>h.2,fun h2=>⟨h2 _ ?_,h2⟩⟩
 have:=(Zbi h).1
 exact by rw [Zb6 (show 0 < ts.length by omega)];exact List.getElem_mem _
theorem Zg5 {ts:TS}:Zbe ts≤400:=by
 unfold Zbe
 split
 ·rename_i h
  have h1:=Zbi h
  have h2:=Zei (ZfG h (k:=0) (by omega))
  have:=mt (ZjD (t:=400) (ts:=ts) (a:=((ts.getD 0 default).length:Int))).1 (by rintro ⟨h3,_⟩;omega)
  omega
 ·omega
theorem ZdB (ts:TS):AC Tryz.prog 74 [.t (.lst false 46 (ts.map trackC))] (.t (.int .i64 (Zbe ts))):=by
 have hto:=Zds ts
 cases hok:Zan ts with
 | false =>
  rw [hok] at hto
  rw [show Zbe ts=0 by rw [Zbe,if_neg (by rw [hok];decide)]]
  refine AC.go Tryz.func74 Tryz.ntmps74 fun B W hr=>?_
  repeat' (first|refine pa ?_|(refine pb ?_ ?_<;>intro hg)|(refine pz9 ?_;(first|refine Zaa hto ?_))|refine po ?_|fail)
  exact pfr
 | true =>
  rw [hok] at hto
  rw [show Zbe ts=minOf ((ts.getD 0 default).length:Int) ts from if_pos hok]
  have hlen:=Zbi hok
  refine AC.go Tryz.func74 Tryz.ntmps74 fun B W hr=>?_
  repeat' (first|refine pa ?_|(refine pb ?_ ?_<;>intro hg)|(refine pz9 ?_;(first|refine Zaa hto ?_))|refine po ?_|fail)
  refine OpS.load_rptr (cs:=trackC (ts.getD 0 default)) (off:=0) rfl (congrArg (fun c=>V.rptr c 0) (getD_map (m:=0) (show 0 < ts.length by omega))) (Tryz.ti rfl) rfl ?_
  repeat' (first|refine pa ?_|(refine pb ?_ ?_<;>intro hg)|refine po ?_|fail)
  refine aW.loopF rfl (fun q:Nat×Int=>[(16,.t (.int .i64 q.1)),(3,.t (.int .i64 q.2))]) [(15,_),(14,_)] (fun q=>[]) [] (fun q=>q.1≤ts.length∧q.2=minOf ((ts.getD 0 default).length:Int) (ts.take q.1)) (fun q=>ts.length - q.1) (0,_) ⟨Nat.zero_le _,rfl⟩ (by (exact plei)) ?_
  rintro ⟨k,m⟩ hI
  obtain ⟨hk,hm⟩:k≤ts.length∧m=minOf ((ts.getD 0 default).length:Int) (ts.take k):=hI
  refine pln ?_
  by_cases hkn:k < ts.length
  ·repeat' (first|refine pa ?_|(refine pb ?_ ?_<;>intro hg)|refine po ?_|fail)
   exact ⟨(k + 1,ZdF m (ts.getD k default)),⟨hkn,by show ZdF m _=_;rw [ZgC hkn,hm]⟩,by show ts.length - (k + 1) < ts.length - k;omega,by (exact ple)⟩
  ·repeat' (first|refine pa ?_|(refine pb ?_ ?_<;>intro hg)|refine po ?_|fail)
   refine pfin ?_
   rw [hm,List.take_of_length_le (by omega)]
   exact .inl rfl
def rowV (ts:TS) (tick:Int):List Int×Bool:=if Zan ts=false∨tick < 0 then ([],false) else (ts.map fun t=>ZaD t tick,allKnown ts tick)
theorem ZjK {ts:TS} {tick:Int} {k:Nat} (h:k < ts.length):Zak ((ts.take (k + 1)).map fun t=>ZaD t tick)=Zak ((ts.take k).map fun t=>ZaD t tick)++[[T.int .i64 (ZaD (ts.getD k default) tick)]]:=by
 rw [List.take_succ_eq_append_getElem h,List.map_append,List.map_cons,List.map_nil,Zl4,Zb6 h]
theorem ZfS {ts:TS} {tick:Int} {k:Nat} (h:k < ts.length):allKnown (ts.take (k + 1)) tick=(allKnown (ts.take k) tick && decide (tick < ((ts.getD k default).length:Int))):=by
 rw [List.take_succ_eq_append_getElem h,allKnown,List.all_append,Zb6 h]
 simp [allKnown]
theorem ZjX (ts:TS) (tick:Int):AC Tryz.prog 69 [.t (.lst false 46 (ts.map trackC)),.t (.int .i64 tick)] (.tup [.fr true 3 (Zak (rowV ts tick).1),.t (.bool (rowV ts tick).2)]):=by
 have hto:=Zds ts
 by_cases h1:Zan ts=false∨tick < 0
 ·rw [show rowV ts tick=([],false) from if_pos h1]
  refine AC.go Tryz.func69 Tryz.ntmps69 fun B W hr=>?_
  repeat' (first|refine pa ?_|(refine pb ?_ ?_<;>intro hg)|(refine pz9 ?_;(first|refine Zaa hto ?_))|refine po ?_|fail)
  all_goals first
   | (refine pfin ?_;(exact pgiv);done)
   | (exfalso;rcases h1 with h1|h1<;>simp_all<;>omega)
 ·have hok:Zan ts=true:=by cases h:Zan ts<;>simp_all
  have h3:0≤tick:=by omega
  rw [show rowV ts tick=(ts.map fun t=>ZaD t tick,allKnown ts tick) from if_neg h1]
  rw [hok] at hto
  have hlen:=Zbi hok
  refine AC.go Tryz.func69 Tryz.ntmps69 fun B W hr=>?_
  repeat' (first|refine pa ?_|(refine pb ?_ ?_<;>intro hg)|(refine pz9 ?_;(first|refine Zaa hto ?_))|refine po ?_|fail)
  refine aW.loopF rfl (fun q:Nat×Nat×List (List T)×Bool=>[(22,.t (.int .i64 q.1)),(6,.hnd 19 q.2.1),(7,.t (.bool q.2.2.2))]) [(21,_),(20,_),(1,_)] (fun q=>[(19,q.2.1,.row true true 3 q.2.2.1)]) [] (fun q=>q.1≤ts.length∧q.2.2.1=Zak ((ts.take q.1).map fun t=>ZaD t tick)∧q.2.2.2=allKnown (ts.take q.1) tick) (fun q=>ts.length - q.1) (0,1,[],true) ⟨Nat.zero_le _,rfl,rfl⟩ (by (exact plei)) ?_
  rintro ⟨k,ep,els,b⟩ hI
  obtain ⟨hk,he,hb⟩:k≤ts.length∧els=Zak ((ts.take k).map fun t=>ZaD t tick)∧b=allKnown (ts.take k) tick:=hI
  subst he
  have hel2:((ts.take k).map fun t=>ZaD t tick).length=k:=by rw [List.length_map,List.length_take];omega
  have hel:(Zak ((ts.take k).map fun t=>ZaD t tick)).length=k:=by rw [Zal,hel2]
  refine pln ?_
  by_cases hkn:k < ts.length
  ·have hp:=Zlo (ts.getD k default) tick
   by_cases hkn2:tick < ((ts.getD k default).length:Int)
   ·repeat' (first|refine pa ?_|(refine pb ?_ ?_<;>intro hg)|(refine pz9 ?_;(first|refine Zaa hp ?_))|refine po ?_|fail)
    exact ⟨(k + 1,ep + 1,_,b),⟨hkn,(ZjK hkn).symm,by rw [hb,ZfS hkn,decide_eq_true hkn2,Bool.and_true]⟩,by show ts.length - (k + 1) < ts.length - k;omega,by (exact ple)⟩
   ·repeat' (first|refine pa ?_|(refine pb ?_ ?_<;>intro hg)|(refine pz9 ?_;(first|refine Zaa hp ?_))|refine po ?_|fail)
    exact ⟨(k + 1,ep + 1,_,false),⟨hkn,(ZjK hkn).symm,by rw [ZfS hkn,decide_eq_false hkn2,Bool.and_false]⟩,by show ts.length - (k + 1) < ts.length - k;omega,by (exact ple)⟩
  ·repeat' (first|refine pa ?_|(refine pb ?_ ?_<;>intro hg)|refine po ?_|fail)
   have hk':k=ts.length:=by omega
   subst hk'
   rw [List.take_length] at hb
   refine pfin ?_
   rw [hb]
   rw [List.take_length]
   (exact pgiv)
structure Pr where
 me:Int
 delay:Int
 ahead:Int
 seed:Int
 tracks:TS
 base:Wd
 now:Wd
 used:TS
 saves:List Sv
 sums:List Int
 ft:Int
 fp:Int
 fa:Int
 rolls:Int
 again:Int
structure Zeq (p:Pr):Prop where
 tracks:p.tracks.length≤1048576∧∀ k,k < p.tracks.length→(p.tracks.getD k default).length≤1048576
 base:p.base.level.length≤1048576∧p.base.scores.length≤1048576∧p.base.bodies.length≤1048576
 now:p.now.level.length≤1048576∧p.now.scores.length≤1048576∧p.now.bodies.length≤1048576
 used:p.used.length≤1048576∧∀ k,k < p.used.length→(p.used.getD k default).length≤1048576
 saves:p.saves.length≤1048576
 sums:p.sums.length≤1048576
theorem ZrU {X Y:Prop} (h:Y) (r:Hld Y→X:=by intro h;(apply pdq 9;(focus exact pdp);(focus ((refine pt0_ 0 ?_<;>refine pt0_ 1 ?_<;>refine Za7 2 ?_<;>refine pt7_ 3 ?_<;>refine pt0_ 4 ?_<;>refine pt0_ 5 ?_<;>refine Za7 6 ?_<;>refine pt7_ 7 ?_<;>refine Zbh 8 ?_<;>(refine ZaI ?_;exact ZaJ)))));exact h.out):X:=r ⟨h⟩
theorem Zjn {P:Nat→Prop} {q:Nat} (h:∀ k,k < q→P k) (hq:P q):∀ k,k < q + 1→P k:=fun k hk=>by
 by_cases e:k=q
 ·rw [e];exact hq
 ·exact h k (by omega)
theorem ZrI (a b:List Int):AC Tryz.prog 82 [.t (ints 3 a),.t (ints 3 b)] (.t (.bool (decide (a=b)))):=by
 refine AC.go Tryz.func82 Tryz.ntmps82 fun B W hr=>?_
 obtain ⟨us,hus⟩:=hr
 have hla:=(Zga (ZaR hus (i:=0) rfl)).1
 have hlb:=(Zga (ZaR hus (i:=1) rfl)).1
 clear hus
 by_cases hl:a.length=b.length
 ·repeat' (first|refine pa ?_|(refine pb ?_ ?_<;>intro hg)|refine po ?_|(refine ZrU ?_)|fail)
  all_goals try (exfalso;omega)
  refine aW.loopF rfl (fun q:Nat=>[(5,.t (.int .i64 q))]) [(1,_),(0,_)] (fun q=>[]) [] (fun q=>q≤a.length∧a.take q=b.take q) (fun q=>a.length - q) 0 ⟨Nat.zero_le _,rfl⟩ (by (exact plei)) ?_
  rintro k ⟨hk,he⟩
  refine pln ?_
  by_cases hkn:k < a.length
  ·by_cases hx:a.getD k default=b.getD k default
   ·repeat' (first|refine pa ?_|(refine pb ?_ ?_<;>intro hg)|refine po ?_|(refine ZrU ?_)|fail)
    exact ⟨k + 1,⟨hkn,by rw [List.take_succ_eq_append_getElem hkn,List.take_succ_eq_append_getElem (by omega),he,← Zb6 hkn,← Zb6 (show k < b.length by omega),hx]⟩,by omega,by (exact ple)⟩
   ·have hne:a ≠ b:=fun e=>hx (by rw [e])
    rw [decide_eq_false hne]
    repeat' (first|refine pa ?_|(refine pb ?_ ?_<;>intro hg)|refine po ?_|(refine ZrU ?_)|fail)
    exact pfr
  ·have hab:a=b:=by rwa [List.take_of_length_le (by omega),List.take_of_length_le (by omega)] at he
   rw [decide_eq_true hab]
   repeat' (first|refine pa ?_|(refine pb ?_ ?_<;>intro hg)|refine po ?_|(refine ZrU ?_)|fail)
   exact pfr
 ·have hne:a ≠ b:=fun e=>hl (by rw [e])
  rw [decide_eq_false hne]
  repeat' (first|refine pa ?_|(refine pb ?_ ?_<;>intro hg)|refine po ?_|(refine ZrU ?_)|fail)
  all_goals first
   | (refine pfin ?_;exact .inl rfl)
   | (exfalso;omega)
section
variable {c:Bool} {s t acc:List UInt8} {f:Nat} {p z m u:Int}
theorem Zni (hp:¬ p < s.length):unpZ c s (f + 1) p acc=some acc:=by rw [unpZ,if_neg hp]
theorem Zpo (hp:p < s.length) (hd:Zag s p=(z,m,false)):unpZ c s (f + 1) p acc=none:=by rw [unpZ,if_pos hp,hd]
theorem Znk (hp:p < s.length) (hd:Zag s p=(z,m,true)) (hu:ZaY s (p + m)=none):unpZ c s (f + 1) p acc=none:=by
 rw [unpZ,if_pos hp,hd]
 simp only [hu]
theorem Zpn (hp:p < s.length) (hd:Zag s p=(z,m,true)) (hu:ZaY s (p + m)=some (t,u)):unpZ c s (f + 1) p acc=if 20000 - (acc.length:Int) < z + (t.length:Int)∨(c=true∧z=0∧t.length=0) then none else unpZ c s f (p + m + u) (acc++List.replicate z.toNat 0++t):=by
 rw [unpZ,if_pos hp,hd]
 simp only [hu]
theorem Za9 (h:unpZ c s (s.length + 1) 0 []=none):ZaN s=none:=by
 rw [ZaN,ZeS true c]
 unfold Zce
 rw [h]
theorem ZeT {l:List UInt8} (h:unpZ c s (s.length + 1) 0 []=some l) (hp:Zau l=s):ZaN s=some l:=by
 rw [ZaN,ZeS true c]
 unfold Zce
 rw [h]
 exact if_pos hp
theorem Zfq {l:List UInt8} (h:unpZ c s (s.length + 1) 0 []=some l) (hp:Zau l ≠ s):ZaN s=none:=by
 rw [ZaN,ZeS true c]
 unfold Zce
 rw [h]
 exact if_neg hp
theorem Zlf (h:ZaY s p=none):unpX s p=([],0,false):=by
 unfold unpX
 rw [h]
theorem Zlg (h:ZaY s p=some (t,u)):unpX s p=(t,u,true):=by
 unfold unpX
 rw [h]
theorem Zib (n:Nat):(List.replicate n [T.int .u8 0]:List (List T))=Zao (List.replicate n 0):=by
 unfold Zao
 rw [List.map_replicate]
 rfl
end
end Go.Proofs.YthfaongbpdnlnaaGreat
