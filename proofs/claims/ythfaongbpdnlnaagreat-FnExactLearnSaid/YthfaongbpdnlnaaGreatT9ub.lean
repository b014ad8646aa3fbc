/- What is proved: what a peer confirms and learns, in plain terms, and that a valid peer stays valid.
   Conditions: none beyond those that each lemma names. -/
import Derived.Test.YthfaongbpdnlnaaGreatAbsVf
namespace Go.Proofs.YthfaongbpdnlnaaGreat
set_option maxHeartbeats 4000000
set_option maxRecDepth 20000
set_option linter.unusedSimpArgs false
set_option linter.unusedVariables false
open Go.RowKit Ab
section
variable {α:Type} [Inhabited α] {f:α→List T} {m:Nat} {xs:List α} {els:List (List T)} {k:Nat}
theorem Za8.init {z:List T} (hz:z.length=m):Za8 f m xs (List.replicate xs.length z) 0 :=
 ⟨Nat.zero_le _,by simp,fun x hx=>by rw [List.eq_of_mem_replicate hx,hz],by simp⟩
theorem Za8.step (h:Za8 f m xs els k) (hk:k < xs.length) {c:List T} (hc:c=f (xs.getD k default)) (hm:c.length=m):Za8 f m xs (els.set k (setRange (els.getD k []) 0 c)) (k + 1):=by
 have hke:k < els.length:=by rw [h.len];exact hk
 have hs:setRange (els.getD k []) 0 c=c:=by
  have h1:(els.getD k []).length=m:=h.uni _ (ZbT hke)
  unfold setRange
  rw [List.take_zero,List.nil_append,List.drop_of_length_le (by omega),List.append_nil]
 rw [hs]
 refine ⟨hk,by rw [List.length_set,h.len],fun x hx=>?_,?_⟩
 ·rcases List.mem_or_eq_of_mem_set hx with hx|rfl
  ·exact h.uni x hx
  ·exact hm
 ·rw [List.take_succ_eq_append_getElem hk,List.map_append,← h.done,List.take_succ_eq_append_getElem (by rw [List.length_set];exact hke),List.take_set_of_le (Nat.le_refl _)]
  simp [hc,hk]
theorem Za8.all (h:Za8 f m xs els xs.length):els=xs.map f:=by
 have:=h.done
 rwa [← h.len,List.take_length,h.len,List.take_length] at this
end
theorem T9d1 {X Y:Prop} (h:Y) (r:Hld Y→X:=by intro h;(apply pdq 9;(focus exact pdp);(focus ((refine pt0_ 0 ?_<;>refine pt0_ 1 ?_<;>refine Za7 2 ?_<;>refine pt7_ 3 ?_<;>refine pt0_ 4 ?_<;>refine pt0_ 5 ?_<;>refine Za7 6 ?_<;>refine pt7_ 7 ?_<;>refine Zbh 8 ?_<;>(refine ZaI ?_;exact ZaJ)))));exact h.out):X:=r ⟨h⟩
theorem ZkB (k:Int) (n:Nat):(Zb8 k n).length=n:=by simp [Zb8]
theorem ZpT {k:Int} {n i:Nat} (h:i < n):(Zb8 k n).getD i default=k + i:=by simp [Zb8,h]
def szI (xs:List Int) (l:Int):Int:=if l - xs.length < 0 then -1 else l - xs.length
theorem ZeW (xs:List Int) (l:Int) (hl:0≤l):AC Tryz.prog 93 [.t (ints 3 xs),.t (.int .i64 l)] (.t (.int .i64 (szI xs l))):=by
 refine AC.go Tryz.func93 Tryz.ntmps93 fun B W hr=>?_
 obtain ⟨us,hus⟩:=hr
 have h1:=(Zga (ZaR hus (i:=0) rfl)).1
 have h2:=ZcJ (ZaR hus (i:=1) rfl)
 clear hus
 repeat' (first|refine pa ?_|(refine pb ?_ ?_<;>intro hg)|refine po ?_|fail)
 all_goals refine pfin ?_
 ·exact .inl (congrArg (T.int .i64) (by rw [szI,if_pos (by omega)]))
 ·exact .inl (congrArg (T.int .i64) (by rw [szI,if_neg (by omega)]))
theorem ZeX (xs:List Int) (hx:xs.length≤1048576):AC Tryz.prog 102 [.t (ints 3 xs)] (.fr true 3 (Zak xs)):=by
 refine AC.go Tryz.func102 Tryz.ntmps102 fun B W hr=>?_
 repeat' (first|refine pa ?_|(refine pb ?_ ?_<;>intro hg)|refine po ?_|fail)
 refine aW.loopF rfl (fun q:Nat×List (List T)=>[(4,.t (.int .i64 q.1)),(3,.hnd 7 1)]) [(0,_)] (fun q=>[(7,1,.row true true 3 q.2)]) [] (fun q=>Za8 intC 1 xs q.2 q.1) (fun q=>xs.length - q.1) (0,_) (Za8.init (z:=[.int .i64 0]) rfl) (by (exact plei)) ?_
 rintro ⟨k,els⟩ hI
 have hI:Za8 intC 1 xs els k:=hI
 obtain ⟨hI1,hI2⟩:k≤xs.length∧els.length=xs.length:=⟨hI.le,hI.len⟩
 refine pln ?_
 repeat' (first|refine pa ?_|(refine pb ?_ ?_<;>intro hg)|refine po ?_|fail)
 ·exact ⟨(k + 1,_),hI.step (by omega) rfl rfl,by show xs.length - (k + 1) < xs.length - k;omega,by (exact ple)⟩
 ·have hk:k=xs.length:=by omega
  subst hk
  have he:=hI.all
  subst he
  refine pfin ?_
  exact rfl
theorem ZdK (xs:List Int):AC Tryz.prog 107 [.t (ints 3 xs),.t (ints 3 xs)] (.t (.bool true)):=by
 refine AC.go Tryz.func107 Tryz.ntmps107 fun B W hr=>?_
 obtain ⟨us,hus⟩:=hr
 have hl:=(Zga (ZaR hus (i:=0) rfl)).1
 clear hus
 repeat' (first|refine pa ?_|(refine pb ?_ ?_<;>intro hg)|refine po ?_|(refine T9d1 ?_)|fail)
 refine aW.loopF rfl (fun q:Nat=>[(5,.t (.int .i64 q))]) [(1,_),(0,_)] (fun q=>[]) [] (fun q=>q≤xs.length) (fun q=>xs.length - q) 0 (Nat.zero_le _) (by (exact plei)) ?_
 intro k hk
 refine pln ?_
 repeat' (first|refine pa ?_|(refine pb ?_ ?_<;>intro hg)|refine po ?_|(refine T9d1 ?_)|fail)
 ·exact ⟨k + 1,by omega,by omega,by (exact ple)⟩
 ·exact pfr
theorem ZkE {k:Int} {n i:Nat} (h:i < n):(Zb8 k n).getD i default=k + i:=ZpT h
theorem Zdu (els:List (List T)) (n:Nat) (k:Int) (hn:els.length=n) (hu:∀ x ∈ els,x.length=1) (h0:0≤k) (h1:k + n≤1152921504606846976):AM Tryz.prog 116 [(0,0,.row true true 3 els)] [.hnd 0 0,.t (.int .i64 k)] [(0,0,.row true true 3 (Zak (Zb8 k n)))] (.t (.int .i64 (k+n))):=by
 have hl:=ZkB k n
 refine AM.go Tryz.func116 Tryz.ntmps116 fun B W hr=>?_
 repeat' (first|refine pa ?_|(refine pb ?_ ?_<;>intro hg)|refine po ?_|fail)
 refine aW.loopF rfl (fun q:Nat×Int×List (List T)=>[(5,.t (.int .i64 q.1)),(1,.t (.int .i64 q.2.1))]) [(0,_)] (fun q=>[(0,0,.row true true 3 q.2.2)]) [] (fun q=>q.2.1=k + q.1∧Za8 intC 1 (Zb8 k n) q.2.2 q.1) (fun q=>n - q.1) (0,k,els) ⟨(Int.add_zero k).symm,Nat.zero_le _,by rw [hl];exact hn,hu,rfl⟩ (by (exact plei)) ?_
 rintro ⟨i,v,es⟩ hI
 obtain ⟨hv,hI⟩:v=k + i∧Za8 intC 1 (Zb8 k n) es i:=hI
 obtain ⟨hI1,hI2⟩:i≤n∧es.length=n:=⟨hl▸hI.le,hl▸hI.len⟩
 refine pln ?_
 repeat' (first|refine pa ?_|(refine pb ?_ ?_<;>intro hg)|refine po ?_|fail)
 ·exact ⟨(i + 1,_,_),⟨by show v + 1=k + ((i + 1:Nat):Int);omega,hI.step (c:=[.int .i64 v]) (by omega) (by rw [ZkE (by omega),hv];rfl) rfl⟩,by show n - (i + 1) < n - i;omega,by (exact ple)⟩
 ·have hk:i=n:=by omega
  subst hk
  have he:es=Zak (Zb8 k i):=Za8.all (xs:=Zb8 k i) (by rw [hl];exact hI)
  subst he
  (show Zbu _ _ _ _ _ _ _;refine ZgD ?_;first|exact .inl ⟨rfl,rfl,rfl⟩|refine .inr ⟨rfl,?_,(by exact pU2),rfl⟩)
  exact .inl (congrArg (T.int .i64) hv)
theorem Zdt (n:Nat) (k:Int) (h0:0≤k) (h1:k + n≤1152921504606846976):AC Tryz.prog 120 [.t (ints 3 (Zb8 k n)),.t (.int .i64 k)] (.t (.int .i64 (k+n))):=by
 have hl:=ZkB k n
 refine AC.go Tryz.func120 Tryz.ntmps120 fun B W hr=>?_
 repeat' (first|refine pa ?_|(refine pb ?_ ?_<;>intro hg)|refine po ?_|fail)
 refine aW.loopF rfl (fun q:Nat×Int=>[(5,.t (.int .i64 q.1)),(1,.t (.int .i64 q.2))]) [(0,_)] (fun q=>[]) [] (fun q=>q.2=k + q.1∧q.1≤n) (fun q=>n - q.1) (0,k) ⟨(Int.add_zero k).symm,Nat.zero_le _⟩ (by (exact plei)) ?_
 rintro ⟨i,v⟩ hI
 obtain ⟨hv,hI⟩:v=k + i∧i≤n:=hI
 refine pln ?_
 by_cases hin:i < n
 ·have hat:(Zb8 k n).getD i default=v:=by rw [ZkE hin,hv]
  repeat' (first|refine pa ?_|(refine pb ?_ ?_<;>intro hg)|refine po ?_|fail)
  exact ⟨(i + 1,v + 1),⟨by show v + 1=k + ((i + 1:Nat):Int);omega,hin⟩,by show n - (i + 1) < n - i;omega,by (exact ple)⟩
 ·repeat' (first|refine pa ?_|(refine pb ?_ ?_<;>intro hg)|refine po ?_|fail)
  refine pfin ?_
  exact .inl (congrArg (T.int .i64) (by omega))
def digE (k:Int):List (List T):=[[T.int .u8 (IntKind.u8.wrap (48 + k.tmod 10))]]
def mdig:Nat→Int→List UInt8→List UInt8
 | 0,_,o=>o
 | f + 1,k,o=>if 0 < k then mdig f (k / 10) ((digE k).map Ab.byteOf++o) else o
def markT (k:Int):List UInt8:=if k≤0 then [109,48] else [109]++mdig 20 k []
theorem Zdw (k:Int):AC Tryz.prog 191 [.t (.int .i64 k)] (.t (.str (markT k))):=by
 refine AC.go Tryz.func191 Tryz.ntmps191 fun B W hr=>?_
 obtain ⟨us,hus⟩:=hr
 have hk:=ZcJ (ZaR hus (i:=0) rfl)
 clear hus
 by_cases h0:k≤0
 ·repeat' (first|refine pa ?_|(refine pb ?_ ?_<;>intro hg)|refine po ?_|fail)
  refine pfin ?_
  exact .inl (congrArg T.str (by simp [markT,h0]))
 ·repeat' (first|refine pa ?_|(refine pb ?_ ?_<;>intro hg)|refine po ?_|fail)
  refine aW.loopF rfl (fun q:Nat×Int×List UInt8=>[(3,.t (.str q.2.2)),(0,.t (.int .i64 q.2.1))]) [] (fun q=>[]) [] (fun q=>0≤q.2.1∧q.2.1 < 10 ^ q.1∧q.2.2.length + q.1≤20∧mdig q.1 q.2.1 q.2.2=mdig 20 k []) (fun q=>q.1) (20,k,[]) ⟨by show 0≤k;omega,by show k < 10 ^ 20;omega,by simp,rfl⟩ (by (exact plei)) ?_
  rintro ⟨f,v,o⟩ hI
  obtain ⟨h1,h2,h3,h4⟩:0≤v∧v < 10 ^ f∧o.length + f≤20∧mdig f v o=mdig 20 k []:=hI
  have ht:v.tmod 10=v % 10:=Int.tmod_eq_emod_of_nonneg h1
  have hb:∀ x ∈ ([[T.int .u8 (IntKind.u8.wrap (48 + v.tmod 10))]]:List (List T)),Ab.isByte x=true:=by intro x hx;simp at hx;subst hx;rfl
  have hl1:(([[T.int .u8 (IntKind.u8.wrap (48 + v.tmod 10))]]:List (List T)).map Ab.byteOf).length + o.length≤maxLen:=by
   show 1 + o.length≤9223372036854775807
   omega
  have hl2:([109]:List UInt8).length + o.length≤maxLen:=by
   show 1 + o.length≤9223372036854775807
   omega
  refine pln ?_
  by_cases hv:0 < v
  ·repeat' (first|refine pa ?_|(refine pb ?_ ?_<;>intro hg)|refine po ?_|fail)
   cases f with
   | zero=>simp at h2;omega
   | succ f =>
    refine ⟨(f,v / 10,_),⟨by show 0≤v / 10;omega,by show v / 10 < 10 ^ f;rw [Int.pow_succ] at h2;exact Int.ediv_lt_of_lt_mul (by omega) h2,by show ((digE v).map Ab.byteOf++o).length + f≤20;simp [digE];omega,?_⟩,by show f < f + 1;omega,by (exact ple)⟩
    show mdig f (v / 10) ((digE v).map Ab.byteOf++o)=_
    rw [← h4,mdig,if_pos hv]
  ·repeat' (first|refine pa ?_|(refine pb ?_ ?_<;>intro hg)|refine po ?_|fail)
   refine pfin ?_
   have hm:mdig f v o=o:=by cases f<;>simp [mdig,hv]
   exact .inl (congrArg T.str (by rw [markT,if_neg h0,← h4,hm];rfl))
theorem set_two {es:List (List T)} {i:Nat} {a b:T} (hi:i < es.length) (hu:∀ x ∈ es,x.length=2) :
  (es.set i (setRange (es.getD i []) 0 [a])).set i (setRange ((es.set i (setRange (es.getD i []) 0 [a])).getD i []) 1 [b])=es.set i [a,b]:=by
 have h1:(es.getD i []).length=2:=hu _ (ZbT hi)
 have h2:(es.set i (setRange (es.getD i []) 0 [a])).getD i []=setRange (es.getD i []) 0 [a]:=by
  simp [List.getD_eq_getElem?_getD,hi]
 rw [h2,List.set_set]
 obtain ⟨x,y,hxy⟩:∃ x y,es.getD i []=[x,y]:=by
  cases h:es.getD i [] with
  | nil=>rw [h] at h1;simp at h1
  | cons x r=>cases r with
   | nil=>rw [h] at h1;simp at h1
   | cons y r=>cases r with
    | nil=>exact ⟨x,y,rfl⟩
    | cons=>rw [h] at h1;simp at h1
 rw [hxy]
 rfl
theorem ZqZ:∀ {f:Nat} {p:Pr},Zic p→Zic (Zki f p)∧(Zki f p).now=p.now∧(Zki f p).tracks=p.tracks
 | 0,p,hp=>⟨hp,rfl,rfl⟩
 | f + 1,p,hp=>by
  unfold Zki
  cases h:ZpE p with
  | none=>exact ⟨hp,rfl,rfl⟩
  | some q =>
   obtain ⟨h1,_,h3,h4,_⟩:=Zqp hp h
   obtain ⟨i1,i2,i3⟩:=ZqZ (f:=f) h1
   exact ⟨i1,i2.trans h3,i3.trans h4⟩
theorem ZrO {p:Pr} (hp:Zic p):Zic (confirmV p)∧(confirmV p).now=p.now∧(confirmV p).tracks=p.tracks:=by
 unfold confirmV
 rw [if_pos (Zbq.2 hp)]
 exact ZqZ hp
end Go.Proofs.YthfaongbpdnlnaaGreat
