/- What is proved: the contract on the size of a peer.
   Conditions: none. -/
import Derived.Test.YthfaongbpdnlnaaGreatT9ub
namespace Go.Proofs.YthfaongbpdnlnaaGreat.Ab
set_option maxHeartbeats 4000000
set_option maxRecDepth 20000
set_option linter.unusedSimpArgs false
set_option linter.unusedVariables false
open Go.RowKit
theorem pxels {X Y:Prop} (h:Y) (r:Hld Y→X:=by intro h;(refine Zab (n:=8) ?_;(first|exact OpS.store_elem rfl rfl rfl (Tryz.ti rfl) (by exact pU4) rfl (by first|exact e5c4 rfl) rfl (by first|omega|(rw [List.length_set];omega)|(simp only [List.length_set];omega)) (by first|exact Zow (by first|omega|(simp only [List.length_set];omega))|assumption) (Tryz.ti rfl) rfl rfl h.out))):X:=r ⟨h⟩
end Go.Proofs.YthfaongbpdnlnaaGreat.Ab
namespace Go.Proofs.YthfaongbpdnlnaaGreat
set_option maxHeartbeats 4000000
set_option maxRecDepth 20000
set_option linter.unusedSimpArgs false
set_option linter.unusedVariables false
open Go.RowKit Go.ChangeShapes Go.WideShapes
def faultT:TY:=.struct (.pair (.int .i64) (.pair (.int .i64) (.pair (.int .i64) .unit)))
open Go.RowKit Ab
theorem drop_at {α:Type} [Inhabited α] {xs:List α} {k:Nat} (hk:k < xs.length):xs.drop k=xs.getD k default :: xs.drop (k + 1):=by
 rw [List.drop_eq_getElem_cons hk];simp [hk]
theorem T49d1 {X Y:Prop} (h:Y) (r:Hld Y→X:=by intro h;(apply pdq 9;(focus exact pdp);(focus ((refine pt0_ 0 ?_<;>refine pt0_ 1 ?_<;>refine Za7 2 ?_<;>refine pt7_ 3 ?_<;>refine pt0_ 4 ?_<;>refine pt0_ 5 ?_<;>refine Za7 6 ?_<;>refine pt7_ 7 ?_<;>refine Zbh 8 ?_<;>(refine ZaI ?_;exact ZaJ)))));exact h.out):X:=r ⟨h⟩
def Zdr:List (List UInt8)→Int→Int
 | [],l=>l
 | f :: r,l=>if l - f.length < 0 then -1 else Zdr r (l - f.length)
def szS (xs:List (List UInt8)) (l:Int):Int:=if l - (xs.length:Int) < 0 then -1 else Zdr xs (l - xs.length)
theorem ZjN:∀ {xs:List (List UInt8)} {l:Int},Zdr xs l≤l∨Zdr xs l < 0
 | [],l=>.inl (Int.le_refl _)
 | f :: r,l=>by
  unfold Zdr
  split
  ·exact .inr (by omega)
  ·rcases ZjN (xs:=r) (l:=l - f.length) with h|h
   ·exact .inl (by omega)
   ·exact .inr h
theorem szS_len {xs:List (List UInt8)} {l:Int} (h:¬ szS xs l < 0):(xs.length:Int)≤l∧szS xs l≤l - xs.length:=by
 unfold szS at h ⊢
 split at h
 ·omega
 ·rename_i hl
  rw [if_neg hl]
  rcases ZjN (xs:=xs) (l:=l - xs.length) with h1|h1
  ·omega
  ·omega
theorem Zjh (xs:List (List UInt8)) (l:Int) (hl:0≤l):AC Tryz.prog 224 [.t (.lst true 9 (Zai xs)),.t (.int .i64 l)] (.t (.int .i64 (szS xs l))):=by
 refine AC.go Tryz.func224 Tryz.ntmps224 fun B W hr=>?_
 obtain ⟨us,hus⟩:=hr
 obtain ⟨h1,h2⟩:=Ze5 (ZaR hus (i:=0) rfl)
 have h3:=ZcJ (ZaR hus (i:=1) rfl)
 clear hus
 repeat' (first|refine pa ?_|(refine pb ?_ ?_<;>intro hg)|refine po ?_|fail)
 ·refine pfin ?_
  exact .inl (congrArg (T.int .i64) (by rw [szS,if_pos (by omega)]))
 ·have hs:szS xs l=Zdr xs (l - xs.length):=by rw [szS,if_neg (by omega)]
  rw [hs]
  refine aW.loopF rfl (fun q:Nat×Int=>[(5,.t (.int .i64 q.1)),(1,.t (.int .i64 q.2))]) [(0,_)] (fun q=>[]) [] (fun q=>q.1≤xs.length∧0≤q.2∧q.2≤l∧Zdr (xs.drop q.1) q.2=Zdr xs (l - xs.length)) (fun q=>xs.length - q.1) (0,_) ⟨Nat.zero_le _,by show 0≤l - (xs.length:Int);omega,by show l - (xs.length:Int)≤l;omega,rfl⟩ (by (exact plei)) ?_
  rintro ⟨k,v⟩ hI
  obtain ⟨hk,hl0,hl1,hgo⟩:k≤xs.length∧0≤v∧v≤l∧Zdr (xs.drop k) v=Zdr xs (l - xs.length):=hI
  refine pln ?_
  by_cases hkn:k < xs.length
  ·rw [drop_at hkn] at hgo
   have h4:=h2 k hkn
   by_cases hc:v - (xs.getD k default).length < 0
   ·repeat' (first|refine pa ?_|(refine pb ?_ ?_<;>intro hg)|refine po ?_|fail)
    refine pfin ?_
    exact .inl (congrArg (T.int .i64) (by rw [← hgo,Zdr,if_pos hc]))
   ·repeat' (first|refine pa ?_|(refine pb ?_ ?_<;>intro hg)|refine po ?_|fail)
    exact ⟨(k + 1,v - (xs.getD k default).length),⟨hkn,by show 0≤v - _;omega,by show v - _≤l;omega,by rw [Zdr,if_neg hc] at hgo;exact hgo⟩,by show xs.length - (k + 1) < xs.length - k;omega,by (exact ple)⟩
  ·repeat' (first|refine pa ?_|(refine pb ?_ ?_<;>intro hg)|refine po ?_|fail)
   refine pfin ?_
   have:xs.drop k=[]:=List.drop_of_length_le (by omega)
   rw [this] at hgo
   exact .inl (congrArg (T.int .i64) hgo)
theorem Zji (xs:List (List UInt8)) (hx:xs.length≤1048576):AC Tryz.prog 228 [.t (.lst true 9 (Zai xs))] (.fr true 9 (Zai xs)):=by
 have hxl:=Zbs xs
 refine AC.go Tryz.func228 Tryz.ntmps228 fun B W hr=>?_
 repeat' (first|refine pa ?_|(refine pb ?_ ?_<;>intro hg)|refine po ?_|fail)
 refine aW.loopF rfl (fun q:Nat×List (List T)=>[(4,.t (.int .i64 q.1)),(3,.hnd 7 1)]) [(0,_)] (fun q=>[(7,1,.row true true 9 q.2)]) [] (fun q=>Za8 strC 1 xs q.2 q.1) (fun q=>xs.length - q.1) (0,_) (Za8.init (z:=[.str .nil]) rfl) (by (exact plei)) ?_
 rintro ⟨k,els⟩ hI
 have hI:Za8 strC 1 xs els k:=hI
 obtain ⟨hI1,hI2⟩:k≤xs.length∧els.length=xs.length:=⟨hI.le,hI.len⟩
 refine pln ?_
 repeat' (first|refine pa ?_|(refine pb ?_ ?_<;>intro hg)|refine po ?_|fail)
 ·exact ⟨(k + 1,_),hI.step (by omega) rfl rfl,by show xs.length - (k + 1) < xs.length - k;omega,by (exact ple)⟩
 ·have hk:k=xs.length:=by omega
  subst hk
  have he:=hI.all
  subst he
  refine pfin ?_
  exact rfl
theorem Zi8 (xs:List (List UInt8)):AC Tryz.prog 187 [.t (.lst true 9 (Zai xs)),.t (.lst true 9 (Zai xs))] (.t (.bool true)):=by
 refine AC.go Tryz.func187 Tryz.ntmps187 fun B W hr=>?_
 obtain ⟨us,hus⟩:=hr
 obtain ⟨hl,_⟩:=Ze5 (ZaR hus (i:=0) rfl)
 clear hus
 repeat' (first|refine pa ?_|(refine pb ?_ ?_<;>intro hg)|refine po ?_|(refine T49d1 ?_)|fail)
 refine aW.loopF rfl (fun q:Nat=>[(5,.t (.int .i64 q))]) [(1,_),(0,_)] (fun q=>[]) [] (fun q=>q≤xs.length) (fun q=>xs.length - q) 0 (Nat.zero_le _) (by (exact plei)) ?_
 intro k hk
 refine pln ?_
 repeat' (first|refine pa ?_|(refine pb ?_ ?_<;>intro hg)|refine po ?_|(refine T49d1 ?_)|fail)
 ·exact ⟨k + 1,by omega,by omega,by (exact ple)⟩
 ·exact pfr
def Zd7 (k:Int) (n:Nat):List (List UInt8):=(List.range n).map fun i:Nat=>markT (k + (i:Int))
theorem ZkC (k:Int) (n:Nat):(Zd7 k n).length=n:=by simp [Zd7]
theorem ZiK {k:Int} {n i:Nat} (h:i < n):(Zd7 k n).getD i default=markT (k + i):=by
 simp [Zd7,h]
theorem Zhp (els:List (List T)) (n:Nat) (k:Int) (hn:els.length=n) (hu:∀ x ∈ els,x.length=1) (h0:0≤k) (h1:k + n≤1152921504606846976):AM Tryz.prog 192 [(0,0,.row true true 9 els)] [.hnd 0 0,.t (.int .i64 k)] [(0,0,.row true true 9 (Zai (Zd7 k n)))] (.t (.int .i64 (k+n))):=by
 have hl:=ZkC k n
 refine AM.go Tryz.func192 Tryz.ntmps192 fun B W hr=>?_
 repeat' (first|refine pa ?_|(refine pb ?_ ?_<;>intro hg)|refine po ?_|fail)
 refine aW.loopF rfl (fun q:Nat×Int×List (List T)=>[(5,.t (.int .i64 q.1)),(1,.t (.int .i64 q.2.1))]) [(0,_)] (fun q=>[(0,0,.row true true 9 q.2.2)]) [] (fun q=>q.2.1=k + q.1∧Za8 strC 1 (Zd7 k n) q.2.2 q.1) (fun q=>n - q.1) (0,k,els) ⟨(Int.add_zero k).symm,Nat.zero_le _,by rw [hl];exact hn,hu,rfl⟩ (by (exact plei)) ?_
 rintro ⟨i,v,es⟩ hI
 obtain ⟨hv,hI⟩:v=k + i∧Za8 strC 1 (Zd7 k n) es i:=hI
 obtain ⟨hI1,hI2⟩:i≤n∧es.length=n:=⟨hl▸hI.le,hl▸hI.len⟩
 have hm:=Zdw v
 refine pln ?_
 repeat' (first|refine pa ?_|(refine pb ?_ ?_<;>intro hg)|(refine Zab (n:=20) ?_;(first|refine Zaa hm ?_))|refine po ?_|fail)
 ·exact ⟨(i + 1,_,_),⟨by show v + 1=k + ((i + 1:Nat):Int);omega,hI.step (c:=[.str (markT v)]) (by omega) (by rw [ZiK (by omega),hv];rfl) rfl⟩,by show n - (i + 1) < n - i;omega,by (exact ple)⟩
 ·have hk:i=n:=by omega
  subst hk
  have he:es=Zai (Zd7 k i):=Za8.all (xs:=Zd7 k i) (by rw [hl];exact hI)
  subst he
  (show Zbu _ _ _ _ _ _ _;refine ZgD ?_;first|exact .inl ⟨rfl,rfl,rfl⟩|refine .inr ⟨rfl,?_,(by exact pU2),rfl⟩)
  exact .inl (congrArg (T.int .i64) hv)
theorem Zho (n:Nat) (k:Int) (h0:0≤k) (h1:k + n≤1152921504606846976):AC Tryz.prog 193 [.t (.lst true 9 (Zai (Zd7 k n))),.t (.int .i64 k)] (.t (.int .i64 (k+n))):=by
 have hl:=ZkC k n
 refine AC.go Tryz.func193 Tryz.ntmps193 fun B W hr=>?_
 repeat' (first|refine pa ?_|(refine pb ?_ ?_<;>intro hg)|refine po ?_|fail)
 refine aW.loopF rfl (fun q:Nat×Int=>[(5,.t (.int .i64 q.1)),(1,.t (.int .i64 q.2))]) [(0,_)] (fun q=>[]) [] (fun q=>q.2=k + q.1∧q.1≤n) (fun q=>n - q.1) (0,k) ⟨(Int.add_zero k).symm,Nat.zero_le _⟩ (by (exact plei)) ?_
 rintro ⟨i,v⟩ hI
 obtain ⟨hv,hI⟩:v=k + i∧i≤n:=hI
 refine pln ?_
 by_cases hin:i < n
 ·have hat:(Zd7 k n).getD i default=markT v:=by rw [ZiK hin,hv]
  have hm:=Zdw v
  rw [← hat] at hm
  repeat' (first|refine pa ?_|(refine pb ?_ ?_<;>intro hg)|(refine Zab (n:=20) ?_;(first|refine Zaa hm ?_))|refine po ?_|((apply pdq 7;(focus exact pdp);(focus ((apply pct 7 63 1;(focus (intro hd1;(refine pt0_ 0 ?_<;>refine pt0_ 1 ?_<;>refine Za7 2 ?_<;>refine pt7_ 3 ?_<;>refine pt0_ 4 ?_<;>(refine pq1 5 ?_;(focus ((refine pop ?_;(refine Zab (n:=20) ?_;(first|refine Zaa hm ?_)))<;>(exact ptm hd1)))))));(case main=>(refine Zbh 6 ?_<;>(refine ZaI ?_;exact ZaJ))))))))|fail)
  exact ⟨(i + 1,v + 1),⟨by show v + 1=k + ((i + 1:Nat):Int);omega,hin⟩,by show n - (i + 1) < n - i;omega,by (exact ple)⟩
 ·repeat' (first|refine pa ?_|(refine pb ?_ ?_<;>intro hg)|refine po ?_|fail)
  refine pfin ?_
  exact .inl (congrArg (T.int .i64) (by omega))
theorem Zmw {α:Type} [Inhabited α] {xs:List α} {k:Nat} (hk:k < xs.length):xs.drop k=xs.getD k default :: xs.drop (k + 1):=by
 rw [List.drop_eq_getElem_cons hk];simp [hk]
theorem ZfE (x:List Int) (r:TS):Zat (x :: r)=x.length + Zat r:=by simp [Zat]
theorem Zdn {ts:TS} {i:Nat} (h:i < ts.length):Zat (ts.take (i + 1))=Zat (ts.take i) + (ts.getD i default).length:=by
 rw [List.take_succ_eq_append_getElem h,Zat,List.map_append,List.sum_append]
 simp [Zat,h]
theorem Zcx (ts:TS) (i:Nat):Zat (ts.take i)≤Zat ts:=by
 have h:Zat ts=Zat (ts.take i++ts.drop i):=by rw [List.take_append_drop]
 rw [h]
 unfold Zat
 rw [List.map_append,List.sum_append]
 omega
def szTs:TS→Int→Int
 | [],l=>l
 | t :: r,l=>if szI t l < 0 then -1 else szTs r (szI t l)
def ZfF (ts:TS) (l:Int):Int:=if l - ts.length < 0 then -1 else szTs ts (l - ts.length)
theorem Zvk {t:List Int} {l:Int} (h:¬ szI t l < 0):szI t l=l - t.length:=by unfold szI at h ⊢;split at h<;>split<;>omega
theorem Zpf:∀ {ts:TS} {l:Int},¬ szTs ts l < 0→szTs ts l=l - Zat ts
 | [],l,h=>by simp [szTs,Zat]
 | t :: r,l,h=>by
  unfold szTs at h ⊢
  split at h
  ·omega
  ·rename_i h1
   rw [if_neg h1,Zpf h,Zvk h1,ZfE]
   omega
theorem Znd {ts:TS} {l:Int} (h:¬ ZfF ts l < 0):ZfF ts l=l - ts.length - Zat ts:=by
 unfold ZfF at h ⊢
 split at h
 ·omega
 ·rename_i h1
  rw [if_neg h1,Zpf h]
theorem ZlB (xs:List Int) (l:Int) (hl:0≤l):AC Tryz.prog 173 [.agg [.t (ints 3 xs)],.t (.int .i64 l)] (.t (.int .i64 (szI xs l))):=by
 have hs:=ZeW xs l hl
 have hd:szI xs l < 0→szI xs l=-1:=fun h=>by unfold szI at h ⊢;split<;>split at h<;>omega
 refine AC.go Tryz.func173 Tryz.ntmps173 fun B W hr=>?_
 repeat' (first|refine pa ?_|(refine pb ?_ ?_<;>intro hg)|(refine Zab (n:=20) ?_;(first|refine Zaa hs ?_))|refine po ?_|fail)
 all_goals refine pfin ?_
 all_goals first
  | exact .inl rfl
  | exact .inl (congrArg (T.int .i64) (hd (by omega)).symm)
theorem Zj2 (ts:TS) (l:Int) (hl:0≤l):AC Tryz.prog 89 [.t (.lst false 175 (ts.map trackC)),.t (.int .i64 l)] (.t (.int .i64 (ZfF ts l))):=by
 refine AC.go Tryz.func89 Tryz.ntmps89 fun B W hr=>?_
 obtain ⟨us,hus⟩:=hr
 obtain ⟨h1,h2⟩:=Zdc (ZaR hus (i:=0) rfl)
 have hlb:=ZcJ (ZaR hus (i:=1) rfl)
 clear hus
 by_cases h0:l - ts.length < 0
 ·rw [show ZfF ts l=-1 from if_pos h0]
  repeat' (first|refine pa ?_|(refine pb ?_ ?_<;>intro hg)|refine po ?_|fail)
  all_goals refine pfin ?_
  all_goals exact .inl rfl
 ·have hs:ZfF ts l=szTs ts (l - ts.length):=if_neg h0
  rw [hs]
  repeat' (first|refine pa ?_|(refine pb ?_ ?_<;>intro hg)|refine po ?_|fail)
  refine aW.loopF rfl (fun q:Nat×Int=>[(5,.t (.int .i64 q.1)),(1,.t (.int .i64 q.2))]) [(0,_)] (fun q=>[]) [] (fun q=>q.1≤ts.length∧0≤q.2∧szTs (ts.drop q.1) q.2=szTs ts (l - ts.length)) (fun q=>ts.length - q.1) (0,_) ⟨Nat.zero_le _,(by show 0≤l - (ts.length:Int);omega),rfl⟩ (by (exact plei)) ?_
  rintro ⟨k,v⟩ hI
  obtain ⟨hk,hv0,hgo⟩:k≤ts.length∧0≤v∧szTs (ts.drop k) v=szTs ts (l - ts.length):=hI
  refine pln ?_
  by_cases hkn:k < ts.length
  ·have hsf:=ZlB (ts.getD k default) v hv0
   rw [Zmw hkn,szTs] at hgo
   by_cases hc:szI (ts.getD k default) v < 0
   ·rw [if_pos hc] at hgo
    repeat' (first|refine pa ?_|(refine pb ?_ ?_<;>intro hg)|(refine Zab (n:=20) ?_;(first|refine Zaa hsf ?_))|refine po ?_|fail)
    refine pfin ?_
    exact .inl (congrArg (T.int .i64) hgo)
   ·rw [if_neg hc] at hgo
    repeat' (first|refine pa ?_|(refine pb ?_ ?_<;>intro hg)|(refine Zab (n:=20) ?_;(first|refine Zaa hsf ?_))|refine po ?_|fail)
    exact ⟨(k + 1,szI (ts.getD k default) v),⟨hkn,by show 0≤szI _ v;omega,hgo⟩,by show ts.length - (k + 1) < ts.length - k;omega,by (exact ple)⟩
  ·repeat' (first|refine pa ?_|(refine pb ?_ ?_<;>intro hg)|refine po ?_|fail)
   refine pfin ?_
   have:ts.drop k=[]:=List.drop_of_length_le (by omega)
   rw [this] at hgo
   exact .inl (congrArg (T.int .i64) hgo)
theorem ZlH (xs:List Int) (h:xs.length≤1048576):AC Tryz.prog 179 [.agg [.t (ints 3 xs)]] (.agg [.fr true 3 (Zak xs)]):=by
 have hi:=ZeX xs h
 refine AC.go Tryz.func179 Tryz.ntmps179 fun B W hr=>?_
 repeat' (first|refine pa ?_|(refine pb ?_ ?_<;>intro hg)|(refine Zab (n:=20) ?_;(first|refine pz3 hi ?_))|refine po ?_|fail)
 exact pfg
theorem Zj3 (ts:TS) (hn:ts.length≤1048576) (hx:∀ k,k < ts.length→(ts.getD k default).length≤1048576):AC Tryz.prog 98 [.t (.lst false 175 (ts.map trackC))] (.fr false 46 (ts.map trackC)):=by
 refine AC.go Tryz.func98 Tryz.ntmps98 fun B W hr=>?_
 repeat' (first|refine pa ?_|(refine pb ?_ ?_<;>intro hg)|refine po ?_|fail)
 refine aW.loopF rfl (fun q:Nat×List (List T)=>[(4,.t (.int .i64 q.1)),(3,.hnd 7 1)]) [(0,_)] (fun q=>[(7,1,.row false true 46 q.2)]) [] (fun q=>Za8 trackC 1 ts q.2 q.1) (fun q=>ts.length - q.1) (0,_) (Za8.init (z:=[.nil]) rfl) (by (exact plei)) ?_
 rintro ⟨k,els⟩ hI
 have hI:Za8 trackC 1 ts els k:=hI
 obtain ⟨hI1,hI2⟩:k≤ts.length∧els.length=ts.length:=⟨hI.le,hI.len⟩
 refine pln ?_
 by_cases hkn:k < ts.length
 ·have ht:=ZlH (ts.getD k default) (hx k hkn)
  repeat' (first|refine pa ?_|(refine pb ?_ ?_<;>intro hg)|refine Zvh ?_|(refine Zab (n:=20) ?_;(first|refine pz3 ht ?_))|refine po ?_|fail)
  exact ⟨(k + 1,_),hI.step (by omega) rfl rfl,by show ts.length - (k + 1) < ts.length - k;omega,by (exact ple)⟩
 ·repeat' (first|refine pa ?_|(refine pb ?_ ?_<;>intro hg)|refine po ?_|fail)
  have hk:k=ts.length:=by omega
  subst hk
  have he:=hI.all
  subst he
  refine pfin ?_
  exact rfl
theorem Zhn (xs:List Int):AC Tryz.prog 189 [.agg [.t (ints 3 xs)],.agg [.t (ints 3 xs)]] (.t (.bool true)):=by
 refine AC.go Tryz.func189 Tryz.ntmps189 fun B W hr=>?_
 repeat' (first|refine pa ?_|(refine pb ?_ ?_<;>intro hg)|(refine Zab (n:=20) ?_;(first|refine Zaa (ZdK _) ?_))|refine po ?_|fail)
 all_goals refine pfin ?_
 all_goals exact .inl rfl
theorem Zj0 (ts:TS):AC Tryz.prog 109 [.t (.lst false 46 (ts.map trackC)),.t (.lst false 46 (ts.map trackC))] (.t (.bool true)):=by
 refine AC.go Tryz.func109 Tryz.ntmps109 fun B W hr=>?_
 obtain ⟨us,hus⟩:=hr
 have hl:=(Zdc (ZaR hus (i:=0) rfl)).1
 clear hus
 repeat' (first|refine pa ?_|(refine pb ?_ ?_<;>intro hg)|refine po ?_|((apply pdq 10;(focus exact pdp);(focus ((apply pct 10 511 1;(focus (intro hd1;(refine pt0_ 0 ?_<;>refine pt0_ 1 ?_<;>refine Za7 2 ?_<;>refine pt7_ 3 ?_<;>refine pt0_ 4 ?_<;>refine pt0_ 5 ?_<;>refine Za7 6 ?_<;>refine pt7_ 7 ?_<;>(refine pq1 8 ?_;(focus ((refine pop ?_;(refine Zab (n:=20) ?_;(first|fail)))<;>(exact ptm hd1)))))));(case main=>(refine Zf9 9 ?_<;>(refine ZaI ?_;exact ZaJ))))))))|fail)
 refine aW.loopF rfl (fun q:Nat=>[(5,.t (.int .i64 q))]) [(1,_),(0,_)] (fun q=>[]) [] (fun q=>q≤ts.length) (fun q=>ts.length - q) 0 (Nat.zero_le _) (by (exact plei)) ?_
 intro k hk
 refine pln ?_
 repeat' (first|refine pa ?_|(refine pb ?_ ?_<;>intro hg)|(refine Zab (n:=20) ?_;(first|refine Zaa (Zhn _) ?_))|refine po ?_|((apply pdq 10;(focus exact pdp);(focus ((apply pct 10 511 1;(focus (intro hd1;(refine pt0_ 0 ?_<;>refine pt0_ 1 ?_<;>refine Za7 2 ?_<;>refine pt7_ 3 ?_<;>refine pt0_ 4 ?_<;>refine pt0_ 5 ?_<;>refine Za7 6 ?_<;>refine pt7_ 7 ?_<;>(refine pq1 8 ?_;(focus ((refine pop ?_;(refine Zab (n:=20) ?_;(first|refine Zaa (Zhn _) ?_)))<;>(exact ptm hd1)))))));(case main=>(refine Zf9 9 ?_<;>(refine ZaI ?_;exact ZaJ))))))))|fail)
 ·exact ⟨k + 1,by omega,by omega,by (exact ple)⟩
 ·exact pfr
theorem Zc9:∀ (k:Int) (ts:TS),(Zcr k ts).length=ts.length
 | _,[]=>rfl
 | k,t :: r=>by simp [Zcr,Zc9 _ r]
theorem ZfZ:∀ (k:Int) (ts:TS) (i:Nat),i < ts.length→(Zcr k ts).getD i default=Zb8 (k + Zat (ts.take i)) (ts.getD i default).length
 | k,t :: r,0,_=>by simp [Zcr,Zat]
 | k,t :: r,i + 1,h=>by
  have ih:=ZfZ (k + t.length) r i (by simpa using h)
  rw [List.take_succ_cons,ZfE]
  show (Zcr (k + t.length) r).getD i default=Zb8 _ (r.getD i default).length
  rw [ih]
  congr 1
  omega
theorem ZpK {α:Type} [Inhabited α] {xs ys:List α} (hl:xs.length=ys.length) (h:∀ i,i < ys.length→xs.getD i default=ys.getD i default):xs=ys:=by
 refine List.ext_getElem hl fun i h1 h2=>?_
 have:=h i h2
 rwa [List.getD_eq_getElem?_getD,List.getD_eq_getElem?_getD,List.getElem?_eq_getElem h1,List.getElem?_eq_getElem h2] at this
theorem Mix.init (k:Int) (ts:TS):Mix k ts ts 0:=⟨Nat.zero_le _,rfl,fun j h=>by omega,fun _ _ _=>rfl⟩
theorem ZmB {α:Type} [Inhabited α] {xs:List α} {i j:Nat} {y:α} (h:i < xs.length):(xs.set i y).getD j default=if i=j then y else xs.getD j default:=by
 rw [List.getD_eq_getElem?_getD,List.getElem?_set]
 split
 ·rename_i e
  subst e
  simp [h]
 ·simp [List.getD_eq_getElem?_getD]
theorem Mix.step {k:Int} {ts mix:TS} {i:Nat} (h:Mix k ts mix i) (hi:i < ts.length):Mix k ts (mix.set i (Zb8 (k + Zat (ts.take i)) (ts.getD i default).length)) (i + 1):=by
 refine ⟨hi,by rw [List.length_set,h.len],fun j hj=>?_,fun j hj hj2=>?_⟩
 ·rw [ZmB (by rw [h.len];exact hi)]
  split
  ·rename_i e
   subst e
   exact (ZfZ k ts i hi).symm
  ·exact h.done j (by omega)
 ·rw [ZmB (by rw [h.len];exact hi),if_neg (by omega)]
  exact h.rest j (by omega) hj2
theorem Mix.all {k:Int} {ts mix:TS} (h:Mix k ts mix ts.length):mix=Zcr k ts :=
 ZpK (by rw [h.len,Zc9]) fun i hi=>h.done i (by rwa [Zc9] at hi)
theorem Zkz (xs:List Int):∀ x ∈ Zak xs,x.length=1:=fun x hx=>by obtain ⟨p,_,rfl⟩:=List.mem_map.1 hx;rfl
theorem Zil (ts:TS) (k:Int) (hn:ts.length≤1048576) (h0:0≤k) (h1:k + Zat ts≤1152921504606846976):AM Tryz.prog 113 [(0,0,.row false true 46 (ts.map trackC))] [.hnd 0 0,.t (.int .i64 k)] [(0,0,.row false true 46 ((Zcr k ts).map trackC))] (.t (.int .i64 (k + Zat ts))):=by
 refine AM.go Tryz.func113 Tryz.ntmps113 fun B W hr=>?_
 repeat' (first|refine pa ?_|(refine pb ?_ ?_<;>intro hg)|refine po ?_|fail)
 refine aW.loopF rfl (fun q:Nat×Int×TS=>[(5,.t (.int .i64 q.1)),(1,.t (.int .i64 q.2.1))]) [(0,_)] (fun q=>[(0,0,.row false true 46 (q.2.2.map trackC))]) [] (fun q=>q.2.1=k + Zat (ts.take q.1)∧Mix k ts q.2.2 q.1) (fun q=>ts.length - q.1) (0,k,ts) ⟨by simp [Zat],Mix.init k ts⟩ (by (exact plei)) ?_
 rintro ⟨i,v,mix⟩ hI
 obtain ⟨hv,hI⟩:v=k + Zat (ts.take i)∧Mix k ts mix i:=hI
 obtain ⟨hI1,hI2⟩:i≤ts.length∧mix.length=ts.length:=⟨hI.le,hI.len⟩
 have hle:=Zcx ts i
 refine pln ?_
 by_cases hin:i < ts.length
 ·have hat:mix.getD i default=ts.getD i default:=hI.rest i (Nat.le_refl _) hin
  have hsl:=Zdn hin
  have hle2:=Zcx ts (i + 1)
  have hm:=Zdu (Zak (ts.getD i default)) (ts.getD i default).length v (Zal _) (Zkz _) (by omega) (by omega)
  have hq:(mix.map trackC).flatten[i]?=some (.lst true 3 (Zak (ts.getD i default))):=by
   rw [Zh2,List.getElem?_map,← hat,List.getElem?_eq_getElem (by omega),List.getD_eq_getElem?_getD,List.getElem?_eq_getElem (by omega)]
   rfl
  refine aW.ghost (Zco.open_ (o:=0) (j:=500) (ej:=1) (q:=i) rfl hq (by decide) rfl) ?_
  dsimp only [St.upds,updl]
  repeat' (first|refine pa ?_|(refine pb ?_ ?_<;>intro hg)|refine ZuQ ?_|refine po ?_|fail)
  (first|(refine Zab (n:=20) ?_;(first|refine Zca (m:=[(0,_,_)]) (hm) ?_))|refine po ?_)
  have h2:(mix.set i (Zb8 v (ts.getD i default).length)).map trackC=(mix.map trackC).set i (((mix.map trackC).getD i []).set 0 (.lst true 3 (Zak (Zb8 v (ts.getD i default).length)))):=by
   rw [List.map_set,getD_map (by omega)]
   rfl
  refine aL.ghost (Zco.close (o:=0) (j:=500) (s:=1) (c:=0) (i:=i) rfl rfl (by decide) (by have h:Zac Tryz.prog 46=some _:=Tryz.ti rfl;exact ZeD h) (by omega) (by decide) (by rw [List.length_map];omega) h2) ?_
  repeat' (first|refine pa ?_|(refine pb ?_ ?_<;>intro hg)|refine po ?_|fail)
  exact ⟨(i + 1,v + (ts.getD i default).length,mix.set i (Zb8 v (ts.getD i default).length)),⟨by show v + ((ts.getD i default).length:Int)=k + ((Zat (ts.take (i + 1)):Nat):Int);omega,by rw [hv];exact hI.step hin⟩,by show ts.length - (i + 1) < ts.length - i;omega,by (exact ple)⟩
 ·have hin':i=ts.length:=by omega
  subst hin'
  have he:=hI.all
  subst he
  have hv':v=k + Zat ts:=by rw [hv,List.take_length]
  repeat' (first|refine pa ?_|(refine pb ?_ ?_<;>intro hg)|refine po ?_|fail)
  (show Zbu _ _ _ _ _ _ _;refine ZgD ?_;first|exact .inl ⟨rfl,rfl,rfl⟩|refine .inr ⟨rfl,?_,(by exact pU2),rfl⟩)
  exact .inl (congrArg (T.int .i64) hv')
theorem Zly (ts:TS) (l:Int) (hl:0≤l):AC Tryz.prog 91 [.t (.lst false 27 (ts.map trackC)),.t (.int .i64 l)] (.t (.int .i64 (ZfF ts l))):=by
 refine AC.go Tryz.func91 Tryz.ntmps91 fun B W hr=>?_
 obtain ⟨us,hus⟩:=hr
 obtain ⟨h1,h2⟩:=Zdc (ZaR hus (i:=0) rfl)
 have hlb:=ZcJ (ZaR hus (i:=1) rfl)
 clear hus
 by_cases h0:l - ts.length < 0
 ·rw [show ZfF ts l=-1 from if_pos h0]
  repeat' (first|refine pa ?_|(refine pb ?_ ?_<;>intro hg)|refine po ?_|fail)
  all_goals refine pfin ?_
  all_goals exact .inl rfl
 ·have hs:ZfF ts l=szTs ts (l - ts.length):=if_neg h0
  rw [hs]
  repeat' (first|refine pa ?_|(refine pb ?_ ?_<;>intro hg)|refine po ?_|fail)
  refine aW.loopF rfl (fun q:Nat×Int=>[(5,.t (.int .i64 q.1)),(1,.t (.int .i64 q.2))]) [(0,_)] (fun q=>[]) [] (fun q=>q.1≤ts.length∧0≤q.2∧szTs (ts.drop q.1) q.2=szTs ts (l - ts.length)) (fun q=>ts.length - q.1) (0,_) ⟨Nat.zero_le _,(by show 0≤l - (ts.length:Int);omega),rfl⟩ (by (exact plei)) ?_
  rintro ⟨k,v⟩ hI
  obtain ⟨hk,hv0,hgo⟩:k≤ts.length∧0≤v∧szTs (ts.drop k) v=szTs ts (l - ts.length):=hI
  refine pln ?_
  by_cases hkn:k < ts.length
  ·have hsf:=ZeW (ts.getD k default) v hv0
   rw [Zmw hkn,szTs] at hgo
   by_cases hc:szI (ts.getD k default) v < 0
   ·rw [if_pos hc] at hgo
    repeat' (first|refine pa ?_|(refine pb ?_ ?_<;>intro hg)|(refine Zab (n:=20) ?_;(first|refine Zaa hsf ?_))|refine po ?_|fail)
    refine pfin ?_
    exact .inl (congrArg (T.int .i64) hgo)
   ·rw [if_neg hc] at hgo
    repeat' (first|refine pa ?_|(refine pb ?_ ?_<;>intro hg)|(refine Zab (n:=20) ?_;(first|refine Zaa hsf ?_))|refine po ?_|fail)
    exact ⟨(k + 1,szI (ts.getD k default) v),⟨hkn,by show 0≤szI _ v;omega,hgo⟩,by show ts.length - (k + 1) < ts.length - k;omega,by (exact ple)⟩
  ·repeat' (first|refine pa ?_|(refine pb ?_ ?_<;>intro hg)|refine po ?_|fail)
   refine pfin ?_
   have:ts.drop k=[]:=List.drop_of_length_le (by omega)
   rw [this] at hgo
   exact .inl (congrArg (T.int .i64) hgo)
theorem ZlE (ts:TS) (hn:ts.length≤1048576) (hx:∀ k,k < ts.length→(ts.getD k default).length≤1048576):AC Tryz.prog 100 [.t (.lst false 27 (ts.map trackC))] (.fr false 27 (ts.map trackC)):=by
 refine AC.go Tryz.func100 Tryz.ntmps100 fun B W hr=>?_
 repeat' (first|refine pa ?_|(refine pb ?_ ?_<;>intro hg)|refine po ?_|fail)
 refine aW.loopF rfl (fun q:Nat×List (List T)=>[(4,.t (.int .i64 q.1)),(3,.hnd 7 1)]) [(0,_)] (fun q=>[(7,1,.row false true 27 q.2)]) [] (fun q=>Za8 trackC 1 ts q.2 q.1) (fun q=>ts.length - q.1) (0,_) (Za8.init (z:=[.nil]) rfl) (by (exact plei)) ?_
 rintro ⟨k,els⟩ hI
 have hI:Za8 trackC 1 ts els k:=hI
 obtain ⟨hI1,hI2⟩:k≤ts.length∧els.length=ts.length:=⟨hI.le,hI.len⟩
 refine pln ?_
 by_cases hkn:k < ts.length
 ·have ht:=ZeX (ts.getD k default) (hx k hkn)
  repeat' (first|refine pa ?_|(refine pb ?_ ?_<;>intro hg)|refine Zvh ?_|(refine Zab (n:=20) ?_;(first|refine pz3 ht ?_))|refine po ?_|fail)
  exact ⟨(k + 1,_),hI.step (by omega) rfl rfl,by show ts.length - (k + 1) < ts.length - k;omega,by (exact ple)⟩
 ·repeat' (first|refine pa ?_|(refine pb ?_ ?_<;>intro hg)|refine po ?_|fail)
  have hk:k=ts.length:=by omega
  subst hk
  have he:=hI.all
  subst he
  refine pfin ?_
  exact rfl
theorem Zlu (ts:TS):AC Tryz.prog 110 [.t (.lst false 27 (ts.map trackC)),.t (.lst false 27 (ts.map trackC))] (.t (.bool true)):=by
 refine AC.go Tryz.func110 Tryz.ntmps110 fun B W hr=>?_
 obtain ⟨us,hus⟩:=hr
 have hl:=(Zdc (ZaR hus (i:=0) rfl)).1
 clear hus
 repeat' (first|refine pa ?_|(refine pb ?_ ?_<;>intro hg)|refine po ?_|((apply pdq 10;(focus exact pdp);(focus ((apply pct 10 511 1;(focus (intro hd1;(refine pt0_ 0 ?_<;>refine pt0_ 1 ?_<;>refine Za7 2 ?_<;>refine pt7_ 3 ?_<;>refine pt0_ 4 ?_<;>refine pt0_ 5 ?_<;>refine Za7 6 ?_<;>refine pt7_ 7 ?_<;>(refine pq1 8 ?_;(focus ((refine pop ?_;(refine Zab (n:=20) ?_;(first|fail)))<;>(exact ptm hd1)))))));(case main=>(refine Zf9 9 ?_<;>(refine ZaI ?_;exact ZaJ))))))))|fail)
 refine aW.loopF rfl (fun q:Nat=>[(5,.t (.int .i64 q))]) [(1,_),(0,_)] (fun q=>[]) [] (fun q=>q≤ts.length) (fun q=>ts.length - q) 0 (Nat.zero_le _) (by (exact plei)) ?_
 intro k hk
 refine pln ?_
 repeat' (first|refine pa ?_|(refine pb ?_ ?_<;>intro hg)|(refine Zab (n:=20) ?_;(first|refine Zaa (ZdK _) ?_))|refine po ?_|((apply pdq 10;(focus exact pdp);(focus ((apply pct 10 511 1;(focus (intro hd1;(refine pt0_ 0 ?_<;>refine pt0_ 1 ?_<;>refine Za7 2 ?_<;>refine pt7_ 3 ?_<;>refine pt0_ 4 ?_<;>refine pt0_ 5 ?_<;>refine Za7 6 ?_<;>refine pt7_ 7 ?_<;>(refine pq1 8 ?_;(focus ((refine pop ?_;(refine Zab (n:=20) ?_;(first|refine Zaa (ZdK _) ?_)))<;>(exact ptm hd1)))))));(case main=>(refine Zf9 9 ?_<;>(refine ZaI ?_;exact ZaJ))))))))|fail)
 ·exact ⟨k + 1,by omega,by omega,by (exact ple)⟩
 ·exact pfr
theorem ZoL {ts:TS} {k:Nat} (h:k < ts.length):(ts.getD k default).length≤Zat ts:=by
 have h1:=Zdn h
 have h2:=Zcx ts (k + 1)
 omega
end Go.Proofs.YthfaongbpdnlnaaGreat
