/- What is proved: contracts on the statements' own marks of rows, saves and peers.
   Conditions: none beyond those that each lemma names. -/
import Derived.Test.YthfaongbpdnlnaaGreatT49ub
namespace Go.Proofs.YthfaongbpdnlnaaGreat
set_option maxHeartbeats 4000000
set_option maxRecDepth 20000
set_option linter.unusedSimpArgs false
set_option linter.unusedVariables false
open Go.RowKit Ab
def ZpC (k:Int):Bd:=⟨k,k + 1,k + 1 + 1,k + 1 + 1 + 1,k + 1 + 1 + 1 + 1,k + 1 + 1 + 1 + 1 + 1,k + 1 + 1 + 1 + 1 + 1 + 1,k + 1 + 1 + 1 + 1 + 1 + 1 + 1,k + 1 + 1 + 1 + 1 + 1 + 1 + 1 + 1⟩
def ZcS (k:Int) (n:Nat):List Bd:=(List.range n).map fun i:Nat=>ZpC (k + 9 * (i:Int))
theorem ZkA (k:Int) (n:Nat):(ZcS k n).length=n:=by simp [ZcS]
theorem ZiJ {k:Int} {n i:Nat} (h:i < n):(ZcS k n).getD i default=ZpC (k + 9 * i):=by
 simp [ZcS,h]
theorem Zow {α:Type} {es:List α} {i:Nat} {x d:α} (h:i < es.length):(es.set i x).getD i d=x:=by
 simp [List.getD_eq_getElem?_getD,h]
theorem nine {α:Type} {l:List α} (h:l.length=9):∃ a b c d e f g i j,l=[a,b,c,d,e,f,g,i,j]:=by
 match l,h with
 | [a,b,c,d,e,f,g,i,j],_=>exact ⟨a,b,c,d,e,f,g,i,j,rfl⟩
theorem Zjd (els:List (List T)) (n:Nat) (k:Int) (hn:els.length=n) (hu:∀ x ∈ els,x.length=9) (h0:0≤k) (h1:k + 9 * n≤1152921504606846976):AM Tryz.prog 118 [(0,0,.row true true 114 els)] [.hnd 0 0,.t (.int .i64 k)] [(0,0,.row true true 114 ((ZcS k n).map bodyC))] (.t (.int .i64 (k+9*n))):=by
 have hl:=ZkA k n
 refine AM.go Tryz.func118 Tryz.ntmps118 fun B W hr=>?_
 repeat' (first|refine pa ?_|(refine pb ?_ ?_<;>intro hg)|refine po ?_|fail)
 refine aW.loopF rfl (fun q:Nat×Int×List (List T)=>[(5,.t (.int .i64 q.1)),(1,.t (.int .i64 q.2.1))]) [(0,_)] (fun q=>[(0,0,.row true true 114 q.2.2)]) [] (fun q=>q.2.1=k + 9 * q.1∧Za8 bodyC 9 (ZcS k n) q.2.2 q.1) (fun q=>n - q.1) (0,k,els) ⟨by show k=k + 9 * ((0:Nat):Int);omega,Nat.zero_le _,by rw [hl];exact hn,hu,rfl⟩ (by (exact plei)) ?_
 rintro ⟨i,v,es⟩ hI
 obtain ⟨hv,hI⟩:v=k + 9 * i∧Za8 bodyC 9 (ZcS k n) es i:=hI
 obtain ⟨hI1,hI2⟩:i≤n∧es.length=n:=⟨hl▸hI.le,hl▸hI.len⟩
 refine pln ?_
 by_cases hin:i < n
 ·obtain ⟨c0,c1,c2,c3,c4,c5,c6,c7,c8,hc⟩:=nine (hI.uni _ (ZbT (by omega:i < es.length)))
  repeat' (first|refine pa ?_|(refine pb ?_ ?_<;>intro hg)|refine pxels ?_|refine po ?_|fail)
  refine ⟨(i + 1,_,_),⟨by show v + 1 + 1 + 1 + 1 + 1 + 1 + 1 + 1 + 1=k + 9 * ((i + 1:Nat):Int);omega,?_⟩,by show n - (i + 1) < n - i;omega,by (exact ple)⟩
  have h2:=hI.step (c:=bodyC (ZpC v)) (by omega) (by rw [ZiJ hin,hv]) rfl
  rw [hc] at h2
  simp only [List.set_set]
  exact h2
 ·have hk:i=n:=by omega
  subst hk
  have he:es=(ZcS k i).map bodyC:=Za8.all (xs:=ZcS k i) (by rw [hl];exact hI)
  subst he
  repeat' (first|refine pa ?_|(refine pb ?_ ?_<;>intro hg)|refine po ?_|fail)
  (show Zbu _ _ _ _ _ _ _;refine ZgD ?_;first|exact .inl ⟨rfl,rfl,rfl⟩|refine .inr ⟨rfl,?_,(by exact pU2),rfl⟩)
  exact .inl (congrArg (T.int .i64) hv)
theorem Zi9 (n:Nat) (k:Int) (h0:0≤k) (h1:k + 9 * n≤1152921504606846976):AC Tryz.prog 121 [.t (.lst true 114 ((ZcS k n).map bodyC)),.t (.int .i64 k)] (.t (.int .i64 (k+9*n))):=by
 have hl:=ZkA k n
 refine AC.go Tryz.func121 Tryz.ntmps121 fun B W hr=>?_
 repeat' (first|refine pa ?_|(refine pb ?_ ?_<;>intro hg)|refine po ?_|fail)
 refine aW.loopF rfl (fun q:Nat×Int=>[(5,.t (.int .i64 q.1)),(1,.t (.int .i64 q.2))]) [(0,_)] (fun q=>[]) [] (fun q=>q.2=k + 9 * q.1∧q.1≤n) (fun q=>n - q.1) (0,k) ⟨by show k=k + 9 * ((0:Nat):Int);omega,Nat.zero_le _⟩ (by (exact plei)) ?_
 rintro ⟨i,v⟩ hI
 obtain ⟨hv,hI⟩:v=k + 9 * i∧i≤n:=hI
 refine pln ?_
 by_cases hin:i < n
 ·have hat:(ZcS k n).getD i default=ZpC v:=by rw [ZiJ hin,hv]
  have e0:((ZcS k n).getD i default).kind=v:=by rw [hat];rfl
  have e1:((ZcS k n).getD i default).owner=v + 1:=by rw [hat];rfl
  have e2:((ZcS k n).getD i default).x=v + 1 + 1:=by rw [hat];rfl
  have e3:((ZcS k n).getD i default).y=v + 1 + 1 + 1:=by rw [hat];rfl
  have e4:((ZcS k n).getD i default).vx=v + 1 + 1 + 1 + 1:=by rw [hat];rfl
  have e5:((ZcS k n).getD i default).vy=v + 1 + 1 + 1 + 1 + 1:=by rw [hat];rfl
  have e6:((ZcS k n).getD i default).aim=v + 1 + 1 + 1 + 1 + 1 + 1:=by rw [hat];rfl
  have e7:((ZcS k n).getD i default).life=v + 1 + 1 + 1 + 1 + 1 + 1 + 1:=by rw [hat];rfl
  have e8:((ZcS k n).getD i default).timer=v + 1 + 1 + 1 + 1 + 1 + 1 + 1 + 1:=by rw [hat];rfl
  clear hat
  repeat' (first|refine pa ?_|(refine pb ?_ ?_<;>intro hg)|refine po ?_|fail)
  exact ⟨(i + 1,_),⟨by show v + 1 + 1 + 1 + 1 + 1 + 1 + 1 + 1 + 1=k + 9 * ((i + 1:Nat):Int);omega,hin⟩,by show n - (i + 1) < n - i;omega,by (exact ple)⟩
 ·repeat' (first|refine pa ?_|(refine pb ?_ ?_<;>intro hg)|refine po ?_|fail)
  refine pfin ?_
  exact .inl (congrArg (T.int .i64) (by omega))
theorem Zjf (els:List (List T)) (n:Nat) (k:Int) (hn:els.length=n) (hu:∀ x ∈ els,x.length=1) (h0:0≤k) (h1:k + n≤1152921504606846976):AM Tryz.prog 117 [(0,0,.row true true 9 els)] [.agg [.hnd 0 0],.t (.int .i64 k)] [(0,0,.row true true 9 (Zai (Zd7 k n)))] (.t (.int .i64 (k+n))):=by
 have hm1:=Zhp els n k hn hu h0 h1
 refine AM.go Tryz.func117 Tryz.ntmps117 fun B W hr=>?_
 repeat' (first|refine pa ?_|(refine pb ?_ ?_<;>intro hg)|(refine Zab (n:=20) ?_;(first|refine Zca (m:=[(0,_,_)]) (hm1) ?_))|refine po ?_|fail)
 (show Zbu _ _ _ _ _ _ _;refine ZgD ?_;first|exact .inl ⟨rfl,rfl,rfl⟩|refine .inr ⟨rfl,?_,(by exact pU2),rfl⟩)
 exact .inl rfl
theorem Zjb (n:Nat) (k:Int) (h0:0≤k) (h1:k + n≤1152921504606846976):AC Tryz.prog 119 [.agg [.t (.lst true 9 (Zai (Zd7 k n)))],.t (.int .i64 k)] (.t (.int .i64 (k+n))):=by
 have hm1:=Zho n k h0 h1
 refine AC.go Tryz.func119 Tryz.ntmps119 fun B W hr=>?_
 repeat' (first|refine pa ?_|(refine pb ?_ ?_<;>intro hg)|(refine Zab (n:=20) ?_;(first|refine Zaa hm1 ?_))|refine po ?_|fail)
 exact pfr
theorem Zc3 (tick seed:Int) (e1 e2 e3:List (List T)) (n1 n2 n3:Nat) (k:Int) (hn1:e1.length=n1) (hn2:e2.length=n2) (hn3:e3.length=n3) (hu1:∀ x ∈ e1,x.length=1) (hu2:∀ x ∈ e2,x.length=1) (hu3:∀ x ∈ e3,x.length=9) (h0:0≤k) (h1:k + n1 + n2 + 9 * n3≤1152921504606846976) :
  AM Tryz.prog 36 [(0,0,.row true true 9 e1),(1,0,.row true true 3 e2),(3,0,.row true true 114 e3)] [.agg [.hnd 0 0,.t (.int .i64 tick),.t (.int .i64 seed),.hnd 1 0,.hnd 3 0],.t (.int .i64 k)]
   [(0,0,.row true true 9 (Zai (Zd7 k n1))),(1,0,.row true true 3 (Zak (Zb8 (k + n1) n2))),(3,0,.row true true 114 ((ZcS (k + n1 + n2) n3).map bodyC))] (.t (.int .i64 (k+n1+n2+9*n3))):=by
 have hm1:=Zjf e1 n1 k hn1 hu1 h0 (by omega)
 have hm2:=Zdu e2 n2 (k + n1) hn2 hu2 (by omega) (by omega)
 have hm3:=Zjd e3 n3 (k + n1 + n2) hn3 hu3 (by omega) (by omega)
 refine AM.go Tryz.func36 Tryz.ntmps36 fun B W hr=>?_
 repeat' (first|refine pa ?_|(refine pb ?_ ?_<;>intro hg)|(refine Zab (n:=20) ?_;(first|refine Zca (m:=[(0,_,_)]) (hm1) ?_|refine Zca (m:=[(0,1,0)]) (hm2) ?_|refine Zca (m:=[(0,3,0)]) (hm3) ?_))|refine po ?_|fail)
 (show Zbu _ _ _ _ _ _ _;refine ZgD ?_;first|exact .inl ⟨rfl,rfl,rfl⟩|refine .inr ⟨rfl,?_,(by exact pU2),rfl⟩)
 exact .inl rfl
theorem Zc2 (tick seed:Int) (n1 n2 n3:Nat) (k:Int) (h0:0≤k) (h1:k + n1 + n2 + 9 * n3≤1152921504606846976) :
  AC Tryz.prog 37 [.agg [.t (.lst true 9 (Zai (Zd7 k n1))),.t (.int .i64 tick),.t (.int .i64 seed),.t (ints 3 (Zb8 (k + n1) n2)),.t (.lst true 114 ((ZcS (k + n1 + n2) n3).map bodyC))],.t (.int .i64 k)] (.t (.int .i64 (k+n1+n2+9*n3))):=by
 have hm1:=Zjb n1 k h0 (by omega)
 have hm2:=Zdt n2 (k + n1) (by omega) (by omega)
 have hm3:=Zi9 n3 (k + n1 + n2) (by omega) (by omega)
 refine AC.go Tryz.func37 Tryz.ntmps37 fun B W hr=>?_
 repeat' (first|refine pa ?_|(refine pb ?_ ?_<;>intro hg)|(refine Zab (n:=20) ?_;(first|refine Zaa hm1 ?_|refine Zaa hm2 ?_|refine Zaa hm3 ?_))|refine po ?_|fail)
 exact pfr
theorem Zpi (k:Int) (ts:TS):((Zcr k ts).map trackC).length=ts.length:=by rw [List.length_map,Zc9]
theorem Zik (ts:TS) (k:Int) (hn:ts.length≤1048576) (h0:0≤k) (h1:k + Zat ts≤1152921504606846976):AC Tryz.prog 123 [.t (.lst false 46 ((Zcr k ts).map trackC)),.t (.int .i64 k)] (.t (.int .i64 (k + Zat ts))):=by
 have hl:=Zc9 k ts
 have hl2:=Zpi k ts
 refine AC.go Tryz.func123 Tryz.ntmps123 fun B W hr=>?_
 repeat' (first|refine pa ?_|(refine pb ?_ ?_<;>intro hg)|refine po ?_|fail)
 refine aW.loopF rfl (fun q:Nat×Int=>[(5,.t (.int .i64 q.1)),(1,.t (.int .i64 q.2))]) [(0,_)] (fun q=>[]) [] (fun q=>q.2=k + Zat (ts.take q.1)∧q.1≤ts.length) (fun q=>ts.length - q.1) (0,k) ⟨by simp [Zat],Nat.zero_le _⟩ (by (exact plei)) ?_
 rintro ⟨i,v⟩ hI
 obtain ⟨hv,hI⟩:v=k + Zat (ts.take i)∧i≤ts.length:=hI
 have hle:=Zcx ts i
 refine pln ?_
 by_cases hin:i < ts.length
 ·have hsl:=Zdn hin
  have hle2:=Zcx ts (i + 1)
  have hh:=Zdt (ts.getD i default).length v (by omega) (by omega)
  rw [show Zb8 v (ts.getD i default).length=(Zcr k ts).getD i default by rw [ZfZ k ts i hin,hv]] at hh
  repeat' (first|refine pa ?_|(refine pb ?_ ?_<;>intro hg)|(refine Zab (n:=20) ?_;(first|refine Zaa hh ?_))|refine po ?_|fail)
  exact ⟨(i + 1,v + (ts.getD i default).length),⟨by show v + ((ts.getD i default).length:Int)=k + ((Zat (ts.take (i + 1)):Nat):Int);omega,hin⟩,by show ts.length - (i + 1) < ts.length - i;omega,by (exact ple)⟩
 ·obtain rfl:i=ts.length:=by omega
  rw [List.take_length] at hv
  repeat' (first|refine pa ?_|(refine pb ?_ ?_<;>intro hg)|refine po ?_|fail)
  refine pfin ?_
  exact .inl (congrArg (T.int .i64) hv)
theorem Zja (ts:TS) (k:Int) (hn:ts.length≤1048576) (h0:0≤k) (h1:k + Zat ts≤1152921504606846976):AC Tryz.prog 124 [.t (.lst false 27 ((Zcr k ts).map trackC)),.t (.int .i64 k)] (.t (.int .i64 (k + Zat ts))):=by
 have hl:=Zc9 k ts
 have hl2:=Zpi k ts
 refine AC.go Tryz.func124 Tryz.ntmps124 fun B W hr=>?_
 repeat' (first|refine pa ?_|(refine pb ?_ ?_<;>intro hg)|refine po ?_|fail)
 refine aW.loopF rfl (fun q:Nat×Int=>[(5,.t (.int .i64 q.1)),(1,.t (.int .i64 q.2))]) [(0,_)] (fun q=>[]) [] (fun q=>q.2=k + Zat (ts.take q.1)∧q.1≤ts.length) (fun q=>ts.length - q.1) (0,k) ⟨by simp [Zat],Nat.zero_le _⟩ (by (exact plei)) ?_
 rintro ⟨i,v⟩ hI
 obtain ⟨hv,hI⟩:v=k + Zat (ts.take i)∧i≤ts.length:=hI
 have hle:=Zcx ts i
 refine pln ?_
 by_cases hin:i < ts.length
 ·have hsl:=Zdn hin
  have hle2:=Zcx ts (i + 1)
  have hh:=Zdt (ts.getD i default).length v (by omega) (by omega)
  rw [show Zb8 v (ts.getD i default).length=(Zcr k ts).getD i default by rw [ZfZ k ts i hin,hv]] at hh
  repeat' (first|refine pa ?_|(refine pb ?_ ?_<;>intro hg)|(refine Zab (n:=20) ?_;(first|refine Zaa hh ?_))|refine po ?_|fail)
  exact ⟨(i + 1,v + (ts.getD i default).length),⟨by show v + ((ts.getD i default).length:Int)=k + ((Zat (ts.take (i + 1)):Nat):Int);omega,hin⟩,by show ts.length - (i + 1) < ts.length - i;omega,by (exact ple)⟩
 ·obtain rfl:i=ts.length:=by omega
  rw [List.take_length] at hv
  repeat' (first|refine pa ?_|(refine pb ?_ ?_<;>intro hg)|refine po ?_|fail)
  refine pfin ?_
  exact .inl (congrArg (T.int .i64) hv)
theorem Zje (ts:TS) (k:Int) (hn:ts.length≤1048576) (h0:0≤k) (h1:k + Zat ts≤1152921504606846976):AM Tryz.prog 114 [(0,0,.row false true 27 (ts.map trackC))] [.hnd 0 0,.t (.int .i64 k)] [(0,0,.row false true 27 ((Zcr k ts).map trackC))] (.t (.int .i64 (k + Zat ts))):=by
 refine AM.go Tryz.func114 Tryz.ntmps114 fun B W hr=>?_
 repeat' (first|refine pa ?_|(refine pb ?_ ?_<;>intro hg)|refine po ?_|fail)
 refine aW.loopF rfl (fun q:Nat×Int×TS=>[(5,.t (.int .i64 q.1)),(1,.t (.int .i64 q.2.1))]) [(0,_)] (fun q=>[(0,0,.row false true 27 (q.2.2.map trackC))]) [] (fun q=>q.2.1=k + Zat (ts.take q.1)∧Mix k ts q.2.2 q.1) (fun q=>ts.length - q.1) (0,k,ts) ⟨by simp [Zat],Mix.init k ts⟩ (by (exact plei)) ?_
 rintro ⟨i,v,mix⟩ hI
 obtain ⟨hv,hI⟩:v=k + Zat (ts.take i)∧Mix k ts mix i:=hI
 obtain ⟨hI1,hI2⟩:i≤ts.length∧mix.length=ts.length:=⟨hI.le,hI.len⟩
 have hle:=Zcx ts i
 refine pln ?_
 by_cases hin:i < ts.length
 ·have hat:mix.getD i default=ts.getD i default:=hI.rest i (Nat.le_refl _) hin
  have hsl:=Zdn hin
  have hle2:=Zcx ts (i + 1)
  have hm:=Zdu (Zak (ts.getD i default)) (ts.getD i default).length v (Zal _) (Zkz _) (by omega) (by omega)
  have hq:(mix.map trackC).flatten[i]?=some (.lst true 3 (Zak (ts.getD i default))):=by
   rw [Zh2,List.getElem?_map,← hat,List.getElem?_eq_getElem (by omega),List.getD_eq_getElem?_getD,List.getElem?_eq_getElem (by omega)]
   rfl
  refine aW.ghost (Zco.open_ (o:=0) (j:=500) (ej:=1) (q:=i) rfl hq (by decide) rfl) ?_
  dsimp only [St.upds,updl]
  repeat' (first|refine pa ?_|(refine pb ?_ ?_<;>intro hg)|refine ZuQ ?_|refine po ?_|fail)
  (first|(refine Zab (n:=20) ?_;(first|refine Zca (m:=[(0,_,_)]) (hm) ?_))|refine po ?_)
  have h2:(mix.set i (Zb8 v (ts.getD i default).length)).map trackC=(mix.map trackC).set i (((mix.map trackC).getD i []).set 0 (.lst true 3 (Zak (Zb8 v (ts.getD i default).length)))):=by
   rw [List.map_set,getD_map (by omega)]
   rfl
  refine aL.ghost (Zco.close (o:=0) (j:=500) (s:=1) (c:=0) (i:=i) rfl rfl (by decide) (by have h:Zac Tryz.prog 27=some _:=Tryz.ti rfl;exact ZeD h) (by omega) (by decide) (by rw [List.length_map];omega) h2) ?_
  repeat' (first|refine pa ?_|(refine pb ?_ ?_<;>intro hg)|refine po ?_|fail)
  exact ⟨(i + 1,v + (ts.getD i default).length,mix.set i (Zb8 v (ts.getD i default).length)),⟨by show v + ((ts.getD i default).length:Int)=k + ((Zat (ts.take (i + 1)):Nat):Int);omega,by rw [hv];exact hI.step hin⟩,by show ts.length - (i + 1) < ts.length - i;omega,by (exact ple)⟩
 ·have hin':i=ts.length:=by omega
  subst hin'
  have he:=hI.all
  subst he
  have hv':v=k + Zat ts:=by rw [hv,List.take_length]
  repeat' (first|refine pa ?_|(refine pb ?_ ?_<;>intro hg)|refine po ?_|fail)
  (show Zbu _ _ _ _ _ _ _;refine ZgD ?_;first|exact .inl ⟨rfl,rfl,rfl⟩|refine .inr ⟨rfl,?_,(by exact pU2),rfl⟩)
  exact .inl (congrArg (T.int .i64) hv')
def svE (k:Int):Sv:=(k,markT (k + 1))
def Zfg (k:Int) (n:Nat):List Sv:=(List.range n).map fun i:Nat=>svE (k + 2 * (i:Int))
theorem ZkD (k:Int) (n:Nat):(Zfg k n).length=n:=by simp [Zfg]
theorem ZiL {k:Int} {n i:Nat} (h:i < n):(Zfg k n).getD i default=svE (k + 2 * i):=by
 simp [Zfg,h]
theorem Zjg (els:List (List T)) (n:Nat) (k:Int) (hn:els.length=n) (hu:∀ x ∈ els,x.length=2) (h0:0≤k) (h1:k + 2 * n≤1152921504606846976):AM Tryz.prog 115 [(0,0,.row true true 100 els)] [.hnd 0 0,.t (.int .i64 k)] [(0,0,.row true true 100 ((Zfg k n).map saveC))] (.t (.int .i64 (k+2*n))):=by
 have hl:=ZkD k n
 refine AM.go Tryz.func115 Tryz.ntmps115 fun B W hr=>?_
 repeat' (first|refine pa ?_|(refine pb ?_ ?_<;>intro hg)|refine po ?_|fail)
 refine aW.loopF rfl (fun q:Nat×Int×List (List T)=>[(5,.t (.int .i64 q.1)),(1,.t (.int .i64 q.2.1))]) [(0,_)] (fun q=>[(0,0,.row true true 100 q.2.2)]) [] (fun q=>q.2.1=k + 2 * q.1∧Za8 saveC 2 (Zfg k n) q.2.2 q.1) (fun q=>n - q.1) (0,k,els) ⟨by show k=k + 2 * ((0:Nat):Int);omega,Nat.zero_le _,by rw [hl];exact hn,hu,rfl⟩ (by (exact plei)) ?_
 rintro ⟨i,v,es⟩ hI
 obtain ⟨hv,hI⟩:v=k + 2 * i∧Za8 saveC 2 (Zfg k n) es i:=hI
 obtain ⟨hI1,hI2⟩:i≤n∧es.length=n:=⟨hl▸hI.le,hl▸hI.len⟩
 have hm:=Zdw (v + 1)
 refine pln ?_
 repeat' (first|refine pa ?_|(refine pb ?_ ?_<;>intro hg)|(refine Zab (n:=20) ?_;(first|refine Zaa hm ?_))|refine po ?_|fail)
 ·refine ⟨(i + 1,_,_),⟨by show v + 1 + 1=k + 2 * ((i + 1:Nat):Int);omega,?_⟩,by show n - (i + 1) < n - i;omega,by (exact ple)⟩
  have h2:=hI.step (c:=saveC (svE v)) (by omega) (by rw [ZiL (by omega),hv]) rfl
  have h3:setRange (es.getD i []) 0 (saveC (svE v))=saveC (svE v):=by
   have h1:(es.getD i []).length=2:=hI.uni _ (ZbT (by omega))
   match es.getD i [],h1 with
   | [_,_],_=>rfl
  rw [h3] at h2
  have h4:=set_two (a:=.int .i64 v) (b:=.str (markT (v + 1))) (by omega:i < es.length) hI.uni
  exact (congrArg (fun z=>Za8 saveC 2 (Zfg k n) z (i + 1)) h4).mpr h2
 ·have hk:i=n:=by omega
  subst hk
  have he:es=(Zfg k i).map saveC:=Za8.all (xs:=Zfg k i) (by rw [hl];exact hI)
  subst he
  (show Zbu _ _ _ _ _ _ _;refine ZgD ?_;first|exact .inl ⟨rfl,rfl,rfl⟩|refine .inr ⟨rfl,?_,(by exact pU2),rfl⟩)
  exact .inl (congrArg (T.int .i64) hv)
theorem Zjc (n:Nat) (k:Int) (h0:0≤k) (h1:k + 2 * n≤1152921504606846976):AC Tryz.prog 125 [.t (.lst true 100 ((Zfg k n).map saveC)),.t (.int .i64 k)] (.t (.int .i64 (k+2*n))):=by
 have hl:=ZkD k n
 refine AC.go Tryz.func125 Tryz.ntmps125 fun B W hr=>?_
 repeat' (first|refine pa ?_|(refine pb ?_ ?_<;>intro hg)|refine po ?_|fail)
 refine aW.loopF rfl (fun q:Nat×Int=>[(5,.t (.int .i64 q.1)),(1,.t (.int .i64 q.2))]) [(0,_)] (fun q=>[]) [] (fun q=>q.2=k + 2 * q.1∧q.1≤n) (fun q=>n - q.1) (0,k) ⟨by show k=k + 2 * ((0:Nat):Int);omega,Nat.zero_le _⟩ (by (exact plei)) ?_
 rintro ⟨i,v⟩ hI
 obtain ⟨hv,hI⟩:v=k + 2 * i∧i≤n:=hI
 refine pln ?_
 by_cases hin:i < n
 ·have hat:(Zfg k n).getD i default=svE v:=by rw [ZiL hin,hv]
  have ha1:((Zfg k n).getD i default).1=v:=by rw [hat];rfl
  have ha2:((Zfg k n).getD i default).2=markT (v + 1):=by rw [hat];rfl
  have hm:=Zdw (v + 1)
  rw [← ha2] at hm
  repeat' (first|refine pa ?_|(refine pb ?_ ?_<;>intro hg)|(refine Zab (n:=20) ?_;(first|refine Zaa hm ?_))|refine po ?_|((apply pdq 8;(focus exact pdp);(focus ((apply pct 8 127 1;(focus (intro hd1;(refine pt0_ 0 ?_<;>refine pt0_ 1 ?_<;>refine Za7 2 ?_<;>refine ZaC 3 ?_<;>refine pt7_ 4 ?_<;>refine pt0_ 5 ?_<;>(refine pq1 6 ?_;(focus ((refine pop ?_;(refine Zab (n:=20) ?_;(first|refine Zaa hm ?_)))<;>(exact ptm hd1)))))));(case main=>(refine Zbh 7 ?_<;>(refine ZaI ?_;exact ZaJ))))))))|fail)
  exact ⟨(i + 1,v + 1 + 1),⟨by show v + 1 + 1=k + 2 * ((i + 1:Nat):Int);omega,hin⟩,by show n - (i + 1) < n - i;omega,by (exact ple)⟩
 ·repeat' (first|refine pa ?_|(refine pb ?_ ?_<;>intro hg)|refine po ?_|fail)
  refine pfin ?_
  exact .inl (congrArg (T.int .i64) (by omega))
theorem Zhc (l:List (List UInt8)):∀ x ∈ Zai l,x.length=1:=fun x hx=>by obtain ⟨p,_,rfl⟩:=List.mem_map.1 hx;rfl
theorem Zgj (l:List Int):∀ x ∈ Zak l,x.length=1:=fun x hx=>by obtain ⟨p,_,rfl⟩:=List.mem_map.1 hx;rfl
theorem Zfa (l:List Bd):∀ x ∈ l.map bodyC,x.length=9:=fun x hx=>by obtain ⟨p,_,rfl⟩:=List.mem_map.1 hx;rfl
theorem Zpk (l:List Sv):∀ x ∈ l.map saveC,x.length=2:=fun x hx=>by obtain ⟨p,_,rfl⟩:=List.mem_map.1 hx;rfl
def k2 (p:Pr) (k:Int):Int:=k + Zat p.tracks + p.base.level.length + p.base.scores.length + 9 * p.base.bodies.length
def k3 (p:Pr) (k:Int):Int:=k2 p k + p.now.level.length + p.now.scores.length + 9 * p.now.bodies.length
def k6 (p:Pr) (k:Int):Int:=k3 p k + Zat p.used + 2 * (p.saves.length:Int) + p.sums.length
theorem Zh1 {ts:TS} (h:∀ k,k < ts.length→(ts.getD k default).length≤1048576):Zat ts≤1048576 * ts.length:=by
 induction ts with
 | nil=>simp [Zat]
 | cons t r ih =>
  have h0:=h 0 (by simp)
  have h1:=ih fun k hk=>h (k + 1) (by simp;omega)
  rw [ZfE,List.length_cons]
  have h2:t.length≤1048576:=h0
  omega
theorem Zeq.sums_ {p:Pr} (h:Zeq p):Zat p.tracks≤1099511627776∧Zat p.used≤1099511627776:=by
 have h1:=Zh1 h.tracks.2
 have h2:=Zh1 h.used.2
 have h3:=h.tracks.1
 have h4:=h.used.1
 omega
theorem Zdv (p:Pr) (h:Zeq p) (k:Int) (h0:0≤k) (h1:k≤1048576):AM Tryz.prog 35 [(0,0,.row false true 46 (p.tracks.map trackC)),(1,0,.row true true 9 (Zai p.base.level)),(3,0,.row true true 3 (Zak p.base.scores)),(4,0,.row true true 114 (p.base.bodies.map bodyC)),(5,0,.row true true 9 (Zai p.now.level)),(6,0,.row true true 3 (Zak p.now.scores)),(7,0,.row true true 114 (p.now.bodies.map bodyC)),(8,0,.row false true 27 (p.used.map trackC)),(9,0,.row true true 100 (p.saves.map saveC)),(10,0,.row true true 3 (Zak p.sums))]
  [.agg [.t (.int .i64 p.me),.t (.int .i64 p.delay),.t (.int .i64 p.ahead),.t (.int .i64 p.seed),.hnd 0 0,.hnd 1 0,.t (.int .i64 p.base.tick),.t (.int .i64 p.base.seed),.hnd 3 0,.hnd 4 0,.hnd 5 0,.t (.int .i64 p.now.tick),.t (.int .i64 p.now.seed),.hnd 6 0,.hnd 7 0,.hnd 8 0,.hnd 9 0,.hnd 10 0,.t (.int .i64 p.ft),.t (.int .i64 p.fp),.t (.int .i64 p.fa),.t (.int .i64 p.rolls),.t (.int .i64 p.again)],.t (.int .i64 k)]
  [(0,0,.row false true 46 ((Zcr k p.tracks).map trackC)),(1,0,.row true true 9 (Zai (Zd7 (k + Zat p.tracks) p.base.level.length))),(3,0,.row true true 3 (Zak (Zb8 (k + Zat p.tracks + p.base.level.length) p.base.scores.length))),(4,0,.row true true 114 ((ZcS (k + Zat p.tracks + p.base.level.length + p.base.scores.length) p.base.bodies.length).map bodyC)),(5,0,.row true true 9 (Zai (Zd7 (k2 p k) p.now.level.length))),(6,0,.row true true 3 (Zak (Zb8 (k2 p k + p.now.level.length) p.now.scores.length))),(7,0,.row true true 114 ((ZcS (k2 p k + p.now.level.length + p.now.scores.length) p.now.bodies.length).map bodyC)),(8,0,.row false true 27 ((Zcr (k3 p k) p.used).map trackC)),(9,0,.row true true 100 ((Zfg (k3 p k + Zat p.used) p.saves.length).map saveC)),(10,0,.row true true 3 (Zak (Zb8 (k3 p k + Zat p.used + 2 * (p.saves.length:Int)) p.sums.length)))] (.t (.int .i64 (k6 p k))):=by
 obtain ⟨s1,s2⟩:=h.sums_
 obtain ⟨b1,b2,b3⟩:=h.base
 obtain ⟨n1,n2,n3⟩:=h.now
 have hsv:=h.saves
 have hsu:=h.sums
 have e2:k2 p k=k + Zat p.tracks + p.base.level.length + p.base.scores.length + 9 * p.base.bodies.length:=rfl
 have e3:k3 p k=k2 p k + p.now.level.length + p.now.scores.length + 9 * p.now.bodies.length:=rfl
 have e6:k6 p k=k3 p k + Zat p.used + 2 * (p.saves.length:Int) + p.sums.length:=rfl
 have hm1:=Zil p.tracks k h.tracks.1 h0 (by omega)
 have hm2:=Zc3 p.base.tick p.base.seed (Zai p.base.level) (Zak p.base.scores) (p.base.bodies.map bodyC) p.base.level.length p.base.scores.length p.base.bodies.length (k + Zat p.tracks) (Zbs _) (Zal _) (List.length_map _) (Zhc _) (Zgj _) (Zfa _) (by omega) (by omega)
 have hm3:=Zc3 p.now.tick p.now.seed (Zai p.now.level) (Zak p.now.scores) (p.now.bodies.map bodyC) p.now.level.length p.now.scores.length p.now.bodies.length (k2 p k) (Zbs _) (Zal _) (List.length_map _) (Zhc _) (Zgj _) (Zfa _) (by omega) (by omega)
 have hm4:=Zje p.used (k3 p k) h.used.1 (by omega) (by omega)
 have hm5:=Zjg (p.saves.map saveC) p.saves.length (k3 p k + Zat p.used) (List.length_map _) (Zpk _) (by omega) (by omega)
 have hm6:=Zdu (Zak p.sums) p.sums.length (k3 p k + Zat p.used + 2 * (p.saves.length:Int)) (Zal _) (Zgj _) (by omega) (by omega)
 rw [← e2] at hm2
 rw [← e3] at hm3
 rw [← e6] at hm6
 refine AM.go Tryz.func35 Tryz.ntmps35 fun B W hr=>?_
 repeat' (first|refine pa ?_|(refine pb ?_ ?_<;>intro hg)|(refine Zab (n:=20) ?_;(first|refine Zca (m:=[(0,_,_)]) (hm1) ?_|refine Zca (m:=[(0,1,0),(1,3,0),(3,4,0)]) (hm2) ?_|refine Zca (m:=[(0,5,0),(1,6,0),(3,7,0)]) (hm3) ?_|refine Zca (m:=[(0,8,0)]) (hm4) ?_|refine Zca (m:=[(0,9,0)]) (hm5) ?_|refine Zca (m:=[(0,10,0)]) (hm6) ?_))|refine po ?_|fail)
 (show Zbu _ _ _ _ _ _ _;refine ZgD ?_;first|exact .inl ⟨rfl,rfl,rfl⟩|refine .inr ⟨rfl,?_,(by exact pU2),rfl⟩)
 exact .inl rfl
theorem Zj1 (p:Pr) (h:Zeq p) (k:Int) (h0:0≤k) (h1:k≤1048576):AC Tryz.prog 40 [.agg [.t (.int .i64 p.me),.t (.int .i64 p.delay),.t (.int .i64 p.ahead),.t (.int .i64 p.seed),.t (.lst false 46 ((Zcr k p.tracks).map trackC)),.t (.lst true 9 (Zai (Zd7 (k + Zat p.tracks) p.base.level.length))),.t (.int .i64 p.base.tick),.t (.int .i64 p.base.seed),.t (.lst true 3 (Zak (Zb8 (k + Zat p.tracks + p.base.level.length) p.base.scores.length))),.t (.lst true 114 ((ZcS (k + Zat p.tracks + p.base.level.length + p.base.scores.length) p.base.bodies.length).map bodyC)),.t (.lst true 9 (Zai (Zd7 (k2 p k) p.now.level.length))),.t (.int .i64 p.now.tick),.t (.int .i64 p.now.seed),.t (.lst true 3 (Zak (Zb8 (k2 p k + p.now.level.length) p.now.scores.length))),.t (.lst true 114 ((ZcS (k2 p k + p.now.level.length + p.now.scores.length) p.now.bodies.length).map bodyC)),.t (.lst false 27 ((Zcr (k3 p k) p.used).map trackC)),.t (.lst true 100 ((Zfg (k3 p k + Zat p.used) p.saves.length).map saveC)),.t (.lst true 3 (Zak (Zb8 (k3 p k + Zat p.used + 2 * (p.saves.length:Int)) p.sums.length))),.t (.int .i64 p.ft),.t (.int .i64 p.fp),.t (.int .i64 p.fa),.t (.int .i64 p.rolls),.t (.int .i64 p.again)],.t (.int .i64 k)] (.t (.int .i64 (k6 p k))):=by
 obtain ⟨s1,s2⟩:=h.sums_
 obtain ⟨b1,b2,b3⟩:=h.base
 obtain ⟨n1,n2,n3⟩:=h.now
 have hsv:=h.saves
 have hsu:=h.sums
 have e2:k2 p k=k + Zat p.tracks + p.base.level.length + p.base.scores.length + 9 * p.base.bodies.length:=rfl
 have e3:k3 p k=k2 p k + p.now.level.length + p.now.scores.length + 9 * p.now.bodies.length:=rfl
 have e6:k6 p k=k3 p k + Zat p.used + 2 * (p.saves.length:Int) + p.sums.length:=rfl
 have hm1:=Zik p.tracks k h.tracks.1 h0 (by omega)
 have hm2:=Zc2 p.base.tick p.base.seed p.base.level.length p.base.scores.length p.base.bodies.length (k + Zat p.tracks) (by omega) (by omega)
 have hm3:=Zc2 p.now.tick p.now.seed p.now.level.length p.now.scores.length p.now.bodies.length (k2 p k) (by omega) (by omega)
 have hm4:=Zja p.used (k3 p k) h.used.1 (by omega) (by omega)
 have hm5:=Zjc p.saves.length (k3 p k + Zat p.used) (by omega) (by omega)
 have hm6:=Zdt p.sums.length (k3 p k + Zat p.used + 2 * (p.saves.length:Int)) (by omega) (by omega)
 rw [← e2] at hm2
 rw [← e3] at hm3
 rw [← e6] at hm6
 refine AC.go Tryz.func40 Tryz.ntmps40 fun B W hr=>?_
 repeat' (first|refine pa ?_|(refine pb ?_ ?_<;>intro hg)|(refine Zab (n:=20) ?_;(first|refine Zaa hm1 ?_|refine Zaa hm2 ?_|refine Zaa hm3 ?_|refine Zaa hm4 ?_|refine Zaa hm5 ?_|refine Zaa hm6 ?_))|refine po ?_|fail)
 all_goals first|(exfalso;omega)|(refine pfin ?_;exact .inl rfl)
end Go.Proofs.YthfaongbpdnlnaaGreat
