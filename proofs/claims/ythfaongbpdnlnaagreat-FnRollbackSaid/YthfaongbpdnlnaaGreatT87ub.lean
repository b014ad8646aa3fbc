/- What is proved: a contract on a new world, the reference's.
   Conditions: the level's rows can be walked. -/
import Derived.Test.YthfaongbpdnlnaaGreatV31
namespace Go.Proofs.YthfaongbpdnlnaaGreat.Ab
set_option maxHeartbeats 4000000
set_option maxRecDepth 20000
set_option linter.unusedSimpArgs false
set_option linter.unusedVariables false
open Go.RowKit
theorem pk13 {X Y:Prop} (h:Y) (r:Hld Y→X:=by intro h;(refine Zab (n:=13) ?_;(first|exact qc70f h.out))):X:=r ⟨h⟩
end Go.Proofs.YthfaongbpdnlnaaGreat.Ab
namespace Go.Proofs.YthfaongbpdnlnaaGreat
set_option maxHeartbeats 4000000
set_option maxRecDepth 20000
set_option linter.unusedSimpArgs false
set_option linter.unusedVariables false
open Go.RowKit Ab
def Zbr (ts:TS) (a:Int) (n:Nat):TS:=(List.range n).map fun i:Nat=>(rowV ts (a + (i:Int))).1
noncomputable def runF (t p a:Int) (w:Wd):TS→Wd
 | []=>w
 | row :: r=>runF t p a (ZbA (ZbY w row) w t p a) r
theorem Zm1 (t p a:Int):∀ (xs ys:TS) (w:Wd),runF t p a w (xs++ys)=runF t p a (runF t p a w xs) ys
 | [],_,_=>rfl
 | _ :: xs,ys,w=>Zm1 t p a xs ys _
theorem ZpO {t p a:Int} {w:Wd} {row:List Int} (h:ZaV w) (ht:w.tick ≠ 100000) (hr:ZbD row w.scores.length=true):(ZbA (ZbY w row) w t p a).tick=w.tick + 1∧(ZbA (ZbY w row) w t p a).level=w.level∧(ZbA (ZbY w row) w t p a).scores.length=w.scores.length∧ZaV (ZbA (ZbY w row) w t p a):=by
 obtain ⟨a1,a2,a3,a4⟩:=Zpd h ht hr
 obtain ⟨b1,b2,b3,b4⟩:=Zkp (w:=w) (t:=t) (p:=p) (a:=a) a4
 exact ⟨b1.trans a1,b2.trans a2,b3.trans a3,b4⟩
theorem ZoW {t p a:Int} {n:Nat}:∀ {rows:TS} {w:Wd},ZaV w→w.scores.length=n→(∀ r ∈ rows,ZbD r n=true)→w.tick + (rows.length:Int)≤100000 →
  ZaV (runF t p a w rows)∧(runF t p a w rows).tick=w.tick + (rows.length:Int)∧(runF t p a w rows).level=w.level∧(runF t p a w rows).scores.length=n
 | [],w,h,hn,_,_=>⟨h,by show w.tick=w.tick + ((0:Nat):Int);omega,rfl,hn⟩
 | row :: r,w,h,hn,hr,ht=>by
  have hl:(row :: r).length=r.length + 1:=rfl
  rw [hl] at ht
  obtain ⟨a1,a2,a3,a4⟩:=ZpO (t:=t) (p:=p) (a:=a) h (by omega) (by rw [hn];exact hr row (List.mem_cons_self ..))
  obtain ⟨b1,b2,b3,b4⟩:=ZoW (t:=t) (p:=p) (a:=a) (rows:=r) a4 (a3.trans hn) (fun x hx=>hr x (List.mem_cons_of_mem _ hx)) (by omega)
  refine ⟨b1,b2.trans ?_,b3.trans a2,b4⟩
  rw [hl,a1]
  omega
theorem ZnO (ts:TS) (b:Int) (n:Nat):Zbr ts b (n + 1)=Zbr ts b n++[(rowV ts (b + (n:Int))).1]:=by
 unfold Zbr
 rw [List.range_succ,List.map_append]
 rfl
theorem Zdk (ts:TS) (b:Int) (n:Nat):(Zbr ts b n).length=n:=by simp [Zbr]
theorem ZgF {ts:TS} {b:Int} {n k:Nat} (h:k < n):(Zbr ts b n).getD k default=(rowV ts (b + k)).1:=by simp [Zbr,h]
theorem Zp5 {n k:Nat}:(List.replicate n (0:Int)).getD k default=0:=by
 rw [List.getD_eq_getElem?_getD,List.getElem?_replicate]
 split<;>rfl
theorem ZtK {l:Lv} {n:Nat} {seed:Int} (hl:ZaZ l) (hn:1≤n∧n≤4) (hs:0≤seed∧seed≤65535):ZaV (newV l n seed):=by
 have hsc:(newV l n seed).scores.length=n:=List.length_replicate
 have hb:(newV l n seed).bodies.length=n:=by show ((List.range n).map _).length=n;rw [List.length_map,List.length_range]
 have hg:∀ k,k < n→(newV l n seed).bodies.getD k default=Zfn l k:=fun k hk=>by
  show ((List.range n).map _).getD k default=_
  rw [List.getD_eq_getElem?_getD,List.getElem?_map,List.getElem?_range hk]
  rfl
 refine ⟨hl,by show (0:Int)≤0∧(0:Int)≤100000;omega,hs,by rw [hsc];exact hn,fun k _=>?_,by rw [hsc,hb];omega,fun k hk=>?_,fun k hk=>?_,fun k h1 h2=>?_⟩
 ·show 0≤(List.replicate n (0:Int)).getD k default∧(List.replicate n (0:Int)).getD k default≤1000000
  rw [Zp5];omega
 ·rw [hb] at hk
  rw [hg k hk,hsc]
  exact ZmA hl (by omega) (by omega) (by omega)
 ·rw [hsc] at hk
  rw [hg k hk]
  exact ⟨rfl,rfl⟩
 ·rw [hsc] at h1
  rw [hb] at h2
  omega
theorem ZiC (bs:List Bd) (b:Bd):(bs++[b]).map bodyC=bs.map bodyC++[bodyC b]:=by rw [List.map_append];rfl
noncomputable def upV (l:Lv) (k:Nat):List Bd:=(List.range k).map fun j:Nat=>Zfn l (j:Int)
theorem Znl (l:Lv) (k:Nat):upV l (k + 1)=upV l k++[Zfn l (k:Int)]:=by
 unfold upV
 rw [List.range_succ,List.map_append]
 rfl
theorem Zp6 (k:Nat):List.replicate (k + 1) (0:Int)=List.replicate k 0++[0]:=List.replicate_succ'
theorem Zl3 (zs:List Int) (y:Int):Zak (zs++[y])=Zak zs++[[T.int .i64 y]]:=by simp [Zak,intC]
theorem ZhN {l:Lv} {n:Nat} {seed:Int}:ZaV (newV l n seed)↔Zer l n seed:=by
 have hsc:(newV l n seed).scores.length=n:=List.length_replicate
 constructor
 ·intro h
  have h1:=h.n
  rw [hsc] at h1
  exact ⟨h.level,by omega,h.seed⟩
 ·rintro ⟨h1,h2,h3⟩
  exact ZtK h1 (by omega) h3
theorem Zh5 {l:Lv} {n:Nat} {seed:Int}:ZaW (newV l n seed)=decide (Zer l n seed):=by
 by_cases h:Zer l n seed
 ·rw [decide_eq_true h];exact Zax.2 (ZhN.2 h)
 ·rw [decide_eq_false h];exact ZaF fun e=>h (ZhN.1 e)
theorem Zj4 (l:Lv) (n seed:Int) (hl:l.length≤1048576) (v:Wd) (hv:v=ZeI l n seed):AC Tryz.prog 62 [.agg [.t (.lst true 9 (Zai l))],.t (.int .i64 n),.t (.int .i64 seed)] (.tup [.agg [.fr true 9 (Zai v.level),.t (.int .i64 v.tick),.t (.int .i64 v.seed),.fr true 3 (Zak v.scores),.fr true 114 (v.bodies.map bodyC)],.t (.bool (decide (Zer l n seed)))]):=by
 have hc:=ZcW l hl
 refine AC.go Tryz.func62 Tryz.ntmps62 fun B W hr=>?_
 repeat' (first|refine pa ?_|(refine pb ?_ ?_<;>intro hg)|(refine Zab (n:=20) ?_;(first|refine pz3 hc ?_))|refine po ?_|fail)
 refine aW.nilcell (o:=8) (i:=500) (k:=3) true 3 rfl rfl rfl rfl rfl ?_
 refine aW.nilcell (o:=8) (i:=501) (k:=4) true 114 rfl rfl rfl rfl rfl ?_
 refine aW.loopF rfl (fun q:Nat×Nat×Nat=>[(9,.t (.int .i64 q.1))]) [(1,_),(3,_),(6,_),(7,_),(8,_)] (fun q=>[(8,1,.box 30 [.hnd (1000 * 11) 1,.t (.int .i64 0),.t (.int .i64 seed),.hnd 500 q.2.1,.hnd 501 q.2.2]),(500,q.2.1,.row true true 3 (Zak (List.replicate q.1 0))),(501,q.2.2,.row true true 114 ((upV l q.1).map bodyC))]) [(3,_,_),(6,_,_),(1000 * 11,_,_)] (fun q=>q.1≤5∧(q.1=0∨(q.1:Int)≤n)) (fun q=>5 - q.1) (0,1,1) ⟨Nat.zero_le _,.inl rfl⟩ (by (exact plei)) ?_
 rintro ⟨k,e1,e2⟩ hI
 obtain ⟨hk5,hkn0⟩:k≤5∧(k=0∨(k:Int)≤n):=hI
 have hz1:(Zak (List.replicate k 0)).length=k:=by rw [Zal,List.length_replicate]
 have hz2:((upV l k).map bodyC).length=k:=by rw [List.length_map,upV,List.length_map,List.length_range]
 have hz3:(upV l k).length=k:=by rw [upV,List.length_map,List.length_range]
 have hf:=ZgJ l k
 refine pln ?_
 by_cases hk:(k:Int) < n∧k < 5
 ·obtain ⟨hk1,hk2⟩:=hk
  repeat' (first|refine pa ?_|(refine pb ?_ ?_<;>intro hg)|refine ZaX ?_|(refine Zab (n:=20) ?_;(first|refine Zaa hf ?_))|refine po ?_|(refine pdr [3] 9 (by (apply pct 9 511 0;(focus (intro hd7;(apply pct 9 127 2;(focus (intro hd6;(apply pct 9 63 3;(focus (intro hd5;(apply pct 9 61 4;(focus (intro hd4;(apply pct 9 31 4;(focus (intro hd3;(apply pct 9 29 5;(focus (intro hd2;(apply pct 9 15 5;(focus (intro hd1;(refine ZaC 0 ?_<;>refine pt7_ 2 ?_<;>refine pt0_ 3 ?_<;>(refine pq2 1 4 ?_ ?_;(focus ((refine pop ?_;refine pk7 ?_)<;>(exact ptm hd1)));(focus ((refine pop ?_;(refine Zab (n:=20) ?_;(first|refine Zaa hf ?_)))<;>(exact ptm hd2)))))));(case main=>((refine pq1 4 ?_;(focus ((refine pop ?_;(refine Zab (n:=20) ?_;(first|refine Zaa hf ?_)))<;>(exact ptm hd3)))))))));(case main=>((refine pq2 1 5 ?_ ?_;(focus ((refine pop ?_;refine pk7 ?_)<;>(exact ptw hd3)));(focus ((refine pop ?_;(first|refine ZaX ?_|refine pk6 ?_))<;>(exact ptm hd4)))))))));(case main=>((refine pq1 5 ?_;(focus ((refine pop ?_;(first|refine ZaX ?_|refine pk6 ?_))<;>(exact ptm hd5)))))))));(case main=>((refine pq1 1 ?_;(focus ((refine pop ?_;refine pk7 ?_)<;>(exact ptw hd5)))))))));(case main=>((refine pq1 6 ?_;(focus ((refine pop ?_;refine pk20 ?_)<;>(exact ptm hd6)))))))));(case main=>(refine ZaC 7 ?_<;>(refine pq1 8 ?_;(focus ((refine pop ?_;refine pk8 ?_)<;>(exact ptm hd7)))))))));(case main=>((refine ZaI ?_;exact ZaJ))))) ?_)|fail)
  exact ⟨(k + 1,e1 + 1,e2 + 1),⟨hk2,.inr (by show ((k + 1:Nat):Int)≤n;omega)⟩,by show 5 - (k + 1) < 5 - k;omega,by rw [Zp6,Znl,Zl3,ZiC];(exact ple)⟩
 ·have hw:=Zdd l 0 seed (List.replicate k 0) (upV l k)
  rw [show (⟨l,0,seed,List.replicate k 0,upV l k⟩:Wd)=newV l k seed from rfl] at hw
  rw [Zh5] at hw
  have v4:(newV l k seed).scores=List.replicate k 0:=rfl
  have v5:(newV l k seed).bodies=upV l k:=rfl
  have v1:(newV l k seed).level=l:=rfl
  have v2:(newV l k seed).tick=0:=rfl
  have v3:(newV l k seed).seed=seed:=rfl
  have hiff:Zer l k seed↔Zer l n seed:=by
   constructor
   ·rintro ⟨h1,h2,h3⟩
    exact ⟨h1,by omega,h3⟩
   ·rintro ⟨h1,h2,h3⟩
    exact ⟨h1,by omega,h3⟩
  by_cases hok:Zer l n seed
  ·have hkn:n=k:=by have:=hok.2.1;omega
   subst hkn
   rw [decide_eq_true hok] at hw ⊢
   rw [ZeI,if_pos hok,Int.toNat_natCast] at hv
   rw [hv,v1,v2,v3,v4,v5]
   repeat' (first|refine pa ?_|(refine pb ?_ ?_<;>intro hg)|(refine Zab (n:=20) ?_;(first|refine Zaa hw ?_))|refine po ?_|fail)
   exact pfg
  ·rw [decide_eq_false fun e=>hok (hiff.1 e)] at hw
   rw [decide_eq_false hok]
   rw [ZeI,if_neg hok] at hv
   subst hv
   repeat' (first|refine pa ?_|(refine pb ?_ ?_<;>intro hg)|(refine Zab (n:=20) ?_;(first|refine Zaa hw ?_))|refine po ?_|fail)
   all_goals refine pfin ?_
   all_goals (exact pgiv)
end Go.Proofs.YthfaongbpdnlnaaGreat
