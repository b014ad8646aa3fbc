/- What is proved: contracts on a new peer, program and reference alike.
   Conditions: the level's rows can be walked. -/
import Derived.Test.YthfaongbpdnlnaaGreatT50s
import Derived.Test.YthfaongbpdnlnaaGreatT53
namespace Go.Proofs.YthfaongbpdnlnaaGreat
set_option maxHeartbeats 4000000
set_option maxRecDepth 20000
set_option linter.unusedSimpArgs false
set_option linter.unusedVariables false
open Go.RowKit Ab
theorem Zn3 {X Y:Prop} (h:Y) (r:Hld Y→X:=by intro h;(apply pdq 9;(focus exact pdp);(focus ((refine pt0_ 0 ?_<;>refine pt0_ 1 ?_<;>refine Za7 2 ?_<;>refine pt7_ 3 ?_<;>refine pt0_ 4 ?_<;>refine pt0_ 5 ?_<;>refine Za7 6 ?_<;>refine pt7_ 7 ?_<;>refine Zbh 8 ?_<;>(refine ZaI ?_;exact ZaJ)))));exact h.out):X:=r ⟨h⟩
theorem Zn4 {X Y:Prop} (h:Y) (r:Hld Y→X:=by intro h;(apply pdq 11;(focus exact pdp);(focus ((refine ZaC 0 ?_<;>refine pt7_ 1 ?_<;>refine pt0_ 2 ?_<;>refine Za7 3 ?_<;>refine pt7_ 4 ?_<;>refine ZaC 5 ?_<;>refine pt7_ 6 ?_<;>refine pt0_ 7 ?_<;>refine Za7 8 ?_<;>refine pt7_ 9 ?_<;>refine Zbh 10 ?_<;>(refine ZaI ?_;exact ZaJ)))));exact h.out):X:=r ⟨h⟩
theorem Znx (a b:List (List UInt8)):AC Tryz.prog 171 [.t (.lst true 9 (Zai a)),.t (.lst true 9 (Zai b))] (.t (.bool (decide (a=b)))):=by
 refine AC.go Tryz.func171 Tryz.ntmps171 fun B W hr=>?_
 obtain ⟨us,hus⟩:=hr
 have hla:=(Ze5 (ZaR hus (i:=0) rfl)).1
 have hlb:=(Ze5 (ZaR hus (i:=1) rfl)).1
 clear hus
 by_cases hl:a.length=b.length
 ·repeat' (first|refine pa ?_|(refine pb ?_ ?_<;>intro hg)|refine po ?_|(refine Zn3 ?_)|fail)
  all_goals try (exfalso;omega)
  refine aW.loopF rfl (fun q:Nat=>[(13,.t (.int .i64 (q:Nat)))]) [(12,_),(1,_),(0,_)] (fun q=>[]) [] (fun q=>q≤a.length∧a.take q=b.take q) (fun q=>a.length - q) 0 ⟨Nat.zero_le _,rfl⟩ (by (exact plei)) ?_
  rintro k ⟨hk,he⟩
  refine pln ?_
  by_cases hkn:k < a.length
  ·by_cases hx:a.getD k default=b.getD k default
   ·repeat' (first|refine pa ?_|(refine pb ?_ ?_<;>intro hg)|refine po ?_|(refine Zn3 ?_)|fail)
    exact ⟨k + 1,⟨hkn,by rw [List.take_succ_eq_append_getElem hkn,List.take_succ_eq_append_getElem (by omega),he,← Zb6 hkn,← Zb6 (show k < b.length by omega),hx]⟩,by show a.length - (k + 1) < a.length - k;omega,by (exact ple)⟩
   ·have hne:a ≠ b:=fun e=>hx (by rw [e])
    rw [decide_eq_false hne]
    repeat' (first|refine pa ?_|(refine pb ?_ ?_<;>intro hg)|refine po ?_|(refine Zn3 ?_)|fail)
    exact pfr
  ·have hab:a=b:=by rwa [List.take_of_length_le (by omega),List.take_of_length_le (by omega)] at he
   rw [decide_eq_true hab]
   repeat' (first|refine pa ?_|(refine pb ?_ ?_<;>intro hg)|refine po ?_|(refine Zn3 ?_)|fail)
   exact pfr
 ·have hne:a ≠ b:=fun e=>hl (by rw [e])
  rw [decide_eq_false hne]
  repeat' (first|refine pa ?_|(refine pb ?_ ?_<;>intro hg)|refine po ?_|(refine Zn3 ?_)|fail)
  all_goals first
   | (refine pfin ?_;exact .inl rfl)
   | (exfalso;omega)
theorem Zi4 (a b:Lv):AC Tryz.prog 86 [.agg [.t (.lst true 9 (Zai a))],.agg [.t (.lst true 9 (Zai b))]] (.t (.bool (decide (a=b)))):=by
 refine AC.go Tryz.func86 Tryz.ntmps86 fun B W hr=>?_
 repeat' (first|refine pa ?_|(refine pb ?_ ?_<;>intro hg)|(refine Zab (n:=20) ?_;(first|refine Zaa (Znx _ _) ?_))|refine po ?_|fail)
 exact pfr
theorem ZgV (a b:List (List UInt8)):AC Tryz.prog 83 [.agg [.t (.lst true 9 (Zai a))],.agg [.t (.lst true 9 (Zai b))]] (.t (.bool (decide (a=b)))):=by
 refine AC.go Tryz.func83 Tryz.ntmps83 fun B W hr=>?_
 obtain ⟨us,hus⟩:=hr
 have hla:=(Ze5 (ZjG hus (i:=0) (k:=0) rfl rfl)).1
 have hlb:=(Ze5 (ZjG hus (i:=1) (k:=0) rfl rfl)).1
 clear hus
 by_cases hl:a.length=b.length
 ·repeat' (first|refine pa ?_|(refine pb ?_ ?_<;>intro hg)|refine po ?_|(refine Zn4 ?_)|fail)
  all_goals try (exfalso;omega)
  refine aW.loopF rfl (fun q:Nat=>[(5,.t (.int .i64 (q:Nat)))]) [(3,_),(2,_)] (fun q=>[]) [(3,_,_),(2,_,_)] (fun q=>q≤a.length∧a.take q=b.take q) (fun q=>a.length - q) 0 ⟨Nat.zero_le _,rfl⟩ (by (exact plei)) ?_
  rintro k ⟨hk,he⟩
  refine pln ?_
  by_cases hkn:k < a.length
  ·by_cases hx:a.getD k default=b.getD k default
   ·repeat' (first|refine pa ?_|(refine pb ?_ ?_<;>intro hg)|refine po ?_|(refine Zn4 ?_)|fail)
    exact ⟨k + 1,⟨hkn,by rw [List.take_succ_eq_append_getElem hkn,List.take_succ_eq_append_getElem (by omega),he,← Zb6 hkn,← Zb6 (show k < b.length by omega),hx]⟩,by show a.length - (k + 1) < a.length - k;omega,by (exact ple)⟩
   ·have hne:a ≠ b:=fun e=>hx (by rw [e])
    rw [decide_eq_false hne]
    repeat' (first|refine pa ?_|(refine pb ?_ ?_<;>intro hg)|refine po ?_|(refine Zn4 ?_)|fail)
    exact pfr
  ·have hab:a=b:=by rwa [List.take_of_length_le (by omega),List.take_of_length_le (by omega)] at he
   rw [decide_eq_true hab]
   repeat' (first|refine pa ?_|(refine pb ?_ ?_<;>intro hg)|refine po ?_|(refine Zn4 ?_)|fail)
   exact pfr
 ·have hne:a ≠ b:=fun e=>hl (by rw [e])
  rw [decide_eq_false hne]
  repeat' (first|refine pa ?_|(refine pb ?_ ?_<;>intro hg)|refine po ?_|(refine Zn4 ?_)|fail)
  all_goals first
   | (refine pfin ?_;exact .inl rfl)
   | (exfalso;omega)
theorem Zhg (t p a n:Int) (hn:0≤n∧n≤1048576):AC Tryz.prog 87 [.agg [.t (.int .i64 t),.t (.int .i64 p),.t (.int .i64 a)],.t (.int .i64 n)] (.t (.bool (ZcX t p a n))):=by
 have h1:inR t 0 400=true∧(0≤t∧t≤400)∨inR t 0 400=false∧¬ (0≤t∧t≤400):=by
  by_cases h:0≤t∧t≤400
  ·exact .inl ⟨Zae.2 h,h⟩
  ·exact .inr ⟨Zb3 h,h⟩
 have h2:inR p 0 (n - 1)=true∧(0≤p∧p≤n - 1)∨inR p 0 (n - 1)=false∧¬ (0≤p∧p≤n - 1):=by
  by_cases h:0≤p∧p≤n - 1
  ·exact .inl ⟨Zae.2 h,h⟩
  ·exact .inr ⟨Zb3 h,h⟩
 rcases h1 with ⟨i1,j1⟩|⟨i1,j1⟩<;>rcases h2 with ⟨i2,j2⟩|⟨i2,j2⟩<;>by_cases hn0:0 < n
 all_goals try (exfalso;omega)
 all_goals (
  refine AC.go Tryz.func87 Tryz.ntmps87 fun B W hr=>?_)
 repeat' (first|refine pa ?_|(refine pb ?_ ?_<;>intro hg)|(refine Zab (n:=20) ?_;(first|refine Zaa ((Zaq _ _ _)) ?_))|refine po ?_|fail)
 all_goals try (exfalso;omega)
 all_goals refine pfin ?_
 all_goals exact .inl (congrArg T.bool (by unfold ZcX;rw [Bool.eq_iff_iff];simp only [Zae,decide_eq_true_eq,Bool.false_eq_true,false_iff];omega))
theorem ZdD (ts:TS):AC Tryz.prog 28 [.t (.lst false 46 (ts.map trackC))] (.t (.int .i64 (Zbe ts))):=by
 have hto:=ZeA ts
 cases hok:Zan ts with
 | false =>
  rw [hok] at hto
  rw [show Zbe ts=0 by rw [Zbe,if_neg (by rw [hok];decide)]]
  refine AC.go Tryz.func28 Tryz.ntmps28 fun B W hr=>?_
  repeat' (first|refine pa ?_|(refine pb ?_ ?_<;>intro hg)|(refine Zab (n:=20) ?_;(first|refine Zaa hto ?_))|refine po ?_|fail)
  exact pfr
 | true =>
  rw [hok] at hto
  rw [show Zbe ts=minOf ((ts.getD 0 default).length:Int) ts from if_pos hok]
  have hlen:=Zbi hok
  have h1:minOf ((ts.getD 0 default).length:Int) (ts.take 1)=((ts.getD 0 default).length:Int):=by
   rw [show ts.take 1=ts.take (0 + 1) from rfl,ZgC (by omega)]
   show ZdF ((ts.getD 0 default).length:Int) _=_
   unfold ZdF
   split<;>rfl
  refine AC.go Tryz.func28 Tryz.ntmps28 fun B W hr=>?_
  repeat' (first|refine pa ?_|(refine pb ?_ ?_<;>intro hg)|refine pxk0 ?_|(refine Zab (n:=20) ?_;(first|refine Zaa hto ?_))|refine po ?_|fail)
  refine aW.loopF rfl (fun q:Nat×Int=>[(4,.t (.int .i64 (q.1:Nat))),(3,.t (.int .i64 q.2))]) [(0,_)] (fun q=>[]) [] (fun q=>q.1≤ts.length∧q.2=minOf ((ts.getD 0 default).length:Int) (ts.take q.1)) (fun q=>ts.length - q.1) (1,_) ⟨by show 1≤ts.length;omega,h1.symm⟩ (by (exact plei)) ?_
  rintro ⟨k,m⟩ hI
  obtain ⟨hk,hm⟩:k≤ts.length∧m=minOf ((ts.getD 0 default).length:Int) (ts.take k):=hI
  refine pln ?_
  by_cases hkn:k < ts.length
  ·repeat' (first|refine pa ?_|(refine pb ?_ ?_<;>intro hg)|refine po ?_|fail)
   exact ⟨(k + 1,ZdF m (ts.getD k default)),⟨hkn,by show ZdF m _=_;rw [ZgC hkn,hm]⟩,by show ts.length - (k + 1) < ts.length - k;omega,by (exact ple)⟩
  ·repeat' (first|refine pa ?_|(refine pb ?_ ?_<;>intro hg)|refine po ?_|fail)
   refine pfin ?_
   rw [hm,List.take_of_length_le (by omega)]
   exact .inl rfl
end Go.Proofs.YthfaongbpdnlnaaGreat
namespace Go.Proofs.YthfaongbpdnlnaaGreat.Ab
set_option maxHeartbeats 4000000
set_option maxRecDepth 20000
set_option linter.unusedSimpArgs false
set_option linter.unusedVariables false
open Go.RowKit
section
variable {P:Program} {B:Nat→Prop} {W:En} {st:St}
theorem aW.reF {c:Code} {Q:Exit→St→Prop} {n:Nat} (hn:st.n=n) (var:List (Nat×V)) (fx:List (Nat×V)) (ob:List (Nat×Nat×Ob)) (fo:List (Nat×Nat×Ob)) (hst:Le st ⟨n,var++fx,ob++fo⟩)
  (h:aW P B W c Q ⟨n,var++fx,ob++fo⟩):aW P B W c Q st:=fun a w hs=>h a w (hs.weak hst)
end
end Go.Proofs.YthfaongbpdnlnaaGreat.Ab
namespace Go.Proofs.YthfaongbpdnlnaaGreat
set_option maxHeartbeats 4000000
set_option maxRecDepth 20000
set_option linter.unusedSimpArgs false
set_option linter.unusedVariables false
open Go.RowKit Ab
theorem ZhZ {l:Lv} (hl:ZaZ l) {r:Nat} (hr:r≤l.length):(Zbk l r).length≤240:=by
 have h1:=ZfD l r
 have h2:=hl.w20;have h3:=hl.n12
 have h4:r * Zad l≤12 * 20:=Nat.mul_le_mul (by omega) h2
 omega
theorem Zm7 {l:Lv} {r c:Nat} (h:Zam l r c=111):(Zbk l r++Za3 l r (c + 1)).map trackC=(Zbk l r++Za3 l r c).map trackC++[[.lst true 3 (Zak [16 * (c:Int) + 4,16 * (r:Int) + 4])]]:=by
 rw [Zk2 h,← List.append_assoc,List.map_append (l₂:=[_])]
 rfl
theorem Zo5 {l:Lv} {r c:Nat} (h:Zam l r c ≠ 111):(Zbk l r++Za3 l r (c + 1)).map trackC=(Zbk l r++Za3 l r c).map trackC:=by
 rw [Zmf h]
theorem Zlp (l:Lv) (hl:ZaZ l):AC Tryz.prog 215 [.agg [.t (.lst true 9 (Zai l))]] (.fr false 27 ((Zay l).map trackC)):=by
 have hL:=Zbz l
 rw [ZaU.2 hl] at hL
 have hll:=Zbs l
 have g1:=hl.n3;have g2:=hl.n12;have g3:=hl.w4;have g4:=hl.w20
 refine AC.go Tryz.func215 Tryz.ntmps215 fun B W hr=>?_
 repeat' (first|refine pa ?_|(refine pb ?_ ?_<;>intro hg)|(refine Zab (n:=20) ?_;(first|refine Zaa hL ?_))|refine po ?_|fail)
 all_goals first|(refine aW.nilrow (s:=3) (i:=500) false 27 rfl rfl ?_)|(refine aW.ghost (Zco.unflat (o:=6) (d:=true) (e:=27) (els:=[]) rfl) ?_;dsimp only [St.upds,updl])
 refine aW.loopF rfl (fun q:Nat×Nat×List (List T)=>[(13,.t (.int .i64 (q.1:Nat))),(3,.hnd 500 q.2.1)]) [(12,_),(11,_),(1,_)] (fun q=>[(500,q.2.1,.row false true 27 q.2.2)]) [(1,_,_)] (fun q=>q.1≤l.length∧q.2.2=(Zbk l q.1).map trackC) (fun q=>l.length - q.1) (0,1,[]) ⟨Nat.zero_le _,rfl⟩ (by (exact plei)) ?_
 rintro ⟨r,ep,els⟩ hI
 obtain ⟨hr,he⟩:r≤l.length∧els=(Zbk l r).map trackC:=hI
 have hsl:=ZhZ hl hr
 refine pln ?_
 by_cases hrn:r < l.length
 ·have hrow:(l.getD r default).length=Zad l:=hl.rows r hrn
  repeat' (first|refine pa ?_|(refine pb ?_ ?_<;>intro hg)|(refine Zab (n:=20) ?_;(first|refine Zaa hL ?_))|refine po ?_|fail)
  refine aW.loopF rfl (fun q:Nat×Nat×List (List T)=>[(6,.t (.int .i64 (q.1:Nat))),(3,.hnd 500 q.2.1)]) [(13,_),(12,_),(11,_),(4,_),(5,_),(1,_)] (fun q=>[(500,q.2.1,.row false true 27 q.2.2)]) [(1,_,_)] (fun q=>q.1≤Zad l∧q.2.2=(Zbk l r++Za3 l r q.1).map trackC) (fun q=>Zad l - q.1) (0,ep,els) ⟨Nat.zero_le _,by rw [Zgb,List.append_nil];exact he⟩ (by (exact plei)) ?_
  rintro ⟨c,ep,els⟩ hI
  obtain ⟨hc,he⟩:c≤Zad l∧els=(Zbk l r++Za3 l r c).map trackC:=hI
  have hrl:=ZeM l r c
  have hel:els.length≤260:=by rw [he,List.length_map,List.length_append];omega
  refine pln ?_
  by_cases hcn:c < Zad l
  ·have hX:((l.getD r default).getD (Int.toNat (c:Int)) 0).toNat=Zam l r c:=rfl
   by_cases ht:Zam l r c=111
   ·have hy:=Zm7 ht
    rw [Int.mul_comm 16,Int.mul_comm 16] at hy
    repeat' (first|refine pa ?_|(refine pb ?_ ?_<;>intro hg)|refine po ?_|fail)
    exact ⟨(c + 1,ep + 1,_),⟨hcn,by show _=(Zbk l r++Za3 l r (c + 1)).map trackC;rw [hy,← he]⟩,by show Zad l - (c + 1) < Zad l - c;omega,by (exact ple)⟩
   ·repeat' (first|refine pa ?_|(refine pb ?_ ?_<;>intro hg)|refine po ?_|fail)
    exact ⟨(c + 1,ep,els),⟨hcn,by show els=(Zbk l r++Za3 l r (c + 1)).map trackC;rw [Zo5 ht];exact he⟩,by show Zad l - (c + 1) < Zad l - c;omega,by (exact ple)⟩
  ·obtain rfl:c=Zad l:=by omega
   repeat' (first|refine pa ?_|(refine pb ?_ ?_<;>intro hg)|refine po ?_|fail)
   exact ⟨(r + 1,ep,els),⟨hrn,by show els=(Zbk l (r + 1)).map trackC;rw [ZeR];exact he⟩,by show l.length - (r + 1) < l.length - r;omega,by (exact ple)⟩
 ·obtain rfl:r=l.length:=by omega
  subst he
  repeat' (first|refine pa ?_|(refine pb ?_ ?_<;>intro hg)|refine po ?_|fail)
  exact pfg
theorem ZlJ (l:Lv) (hl:ZaZ l):AC Tryz.prog 167 [.agg [.t (.lst true 9 (Zai l))]] (.fr false 27 ((Zay l).map trackC)):=by
 have hL:=Zfs l
 rw [ZaU.2 hl] at hL
 have hll:=Zbs l
 have g1:=hl.n3;have g2:=hl.n12;have g3:=hl.w4;have g4:=hl.w20
 refine AC.go Tryz.func167 Tryz.ntmps167 fun B W hr=>?_
 repeat' (first|refine pa ?_|(refine pb ?_ ?_<;>intro hg)|(refine Zab (n:=20) ?_;(first|refine Zaa hL ?_))|refine po ?_|fail)
 all_goals first|(refine aW.nilrow (s:=3) (i:=500) false 27 rfl rfl ?_)|(refine aW.ghost (Zco.unflat (o:=6) (d:=true) (e:=27) (els:=[]) rfl) ?_;dsimp only [St.upds,updl])
 refine aW.loopF rfl (fun q:Nat×Nat×List (List T)=>[(4,.t (.int .i64 (q.1:Nat))),(3,.hnd 6 q.2.1)]) [(1,_)] (fun q=>[(6,q.2.1,.row false true 27 q.2.2)]) [(1,_,_)] (fun q=>q.1≤l.length∧q.2.2=(Zbk l q.1).map trackC) (fun q=>l.length - q.1) (0,1,[]) ⟨Nat.zero_le _,rfl⟩ (by (exact plei)) ?_
 rintro ⟨r,ep,els⟩ hI
 obtain ⟨hr,he⟩:r≤l.length∧els=(Zbk l r).map trackC:=hI
 have hsl:=ZhZ hl hr
 refine pln ?_
 by_cases hrn:r < l.length
 ·have hrow:(l.getD r default).length=Zad l:=hl.rows r hrn
  repeat' (first|refine pa ?_|(refine pb ?_ ?_<;>intro hg)|(refine Zab (n:=20) ?_;(first|refine Zaa hL ?_))|refine po ?_|fail)
  refine aW.loopF rfl (fun q:Nat×Nat×List (List T)=>[(5,.t (.int .i64 (q.1:Nat))),(3,.hnd 6 q.2.1)]) [(4,_),(1,_)] (fun q=>[(6,q.2.1,.row false true 27 q.2.2)]) [(1,_,_)] (fun q=>q.1≤Zad l∧q.2.2=(Zbk l r++Za3 l r q.1).map trackC) (fun q=>Zad l - q.1) (0,ep,els) ⟨Nat.zero_le _,by rw [Zgb,List.append_nil];exact he⟩ (by (exact plei)) ?_
  rintro ⟨c,ep,els⟩ hI
  obtain ⟨hc,he⟩:c≤Zad l∧els=(Zbk l r++Za3 l r c).map trackC:=hI
  have hrl:=ZeM l r c
  have hel:els.length≤260:=by rw [he,List.length_map,List.length_append];omega
  refine pln ?_
  by_cases hcn:c < Zad l
  ·have hX:((l.getD r default).getD (Int.toNat (c:Int)) 0).toNat=Zam l r c:=rfl
   by_cases ht:Zam l r c=111
   ·have hy:=Zm7 ht
    skip
    repeat' (first|refine pa ?_|(refine pb ?_ ?_<;>intro hg)|refine po ?_|fail)
    exact ⟨(c + 1,ep + 1,_),⟨hcn,by show _=(Zbk l r++Za3 l r (c + 1)).map trackC;rw [hy,← he]⟩,by show Zad l - (c + 1) < Zad l - c;omega,by (exact ple)⟩
   ·repeat' (first|refine pa ?_|(refine pb ?_ ?_<;>intro hg)|refine po ?_|fail)
    exact ⟨(c + 1,ep,els),⟨hcn,by show els=(Zbk l r++Za3 l r (c + 1)).map trackC;rw [Zo5 ht];exact he⟩,by show Zad l - (c + 1) < Zad l - c;omega,by (exact ple)⟩
  ·obtain rfl:c=Zad l:=by omega
   repeat' (first|refine pa ?_|(refine pb ?_ ?_<;>intro hg)|refine po ?_|fail)
   exact ⟨(r + 1,ep,els),⟨hrn,by show els=(Zbk l (r + 1)).map trackC;rw [ZeR];exact he⟩,by show l.length - (r + 1) < l.length - r;omega,by (exact ple)⟩
 ·obtain rfl:r=l.length:=by omega
  subst he
  repeat' (first|refine pa ?_|(refine pb ?_ ?_<;>intro hg)|refine po ?_|fail)
  exact pfg
theorem Zf4 {xs:List Int} (h:(ZcT xs).map (Zaf xs.length++·)=none):Zb2 xs=[]:=by rw [Zb2,h];rfl
theorem Zf5 {xs:List Int} {o:List UInt8} (h:(ZcT xs).map (Zaf xs.length++·)=some o):Zb2 xs=o:=by rw [Zb2,h];rfl
theorem ZkM {xs:List Int} {k:Nat} (hk:¬ k < xs.length):ZcT (xs.drop k)=some []:=by rw [List.drop_of_length_le (by omega),ZcT]
theorem ZjU (xs:List Int) (hx:xs.length≤1048576):AC Tryz.prog 156 [.t (ints 3 xs)] (.t (.str (Zb2 xs))):=by
 have hv:=Zcb (xs.length:Int)
 have hl:=ZaA (xs.length:Int)
 refine AC.go Tryz.func156 Tryz.ntmps156 fun B W hr=>?_
 repeat' (first|refine pa ?_|(refine pb ?_ ?_<;>intro hg)|(refine Zab (n:=20) ?_;(first|refine Zaa hv ?_))|refine po ?_|fail)
 refine aW.loopF rfl (fun q:Nat×Nat×List (List T)=>[(13,.t (.int .i64 q.1)),(3,.hnd 10 q.2.1)]) [(12,_),(11,_)] (fun q=>[(10,q.2.1,.row true true 5 q.2.2)]) [] (fun q=>q.1≤xs.length∧(∀ x ∈ q.2.2,Ab.isByte x=true)∧q.2.2.length≤6 + 6 * q.1∧(ZcT (xs.drop q.1)).map (q.2.2.map Ab.byteOf++·)=(ZcT xs).map (Zaf xs.length++·)) (fun q=>xs.length - q.1) (0,1,Zao (Zaf xs.length)) ⟨Nat.zero_le _,Zf0,by show (Zao _).length≤6 + 6 * 0;rw [Zc8];omega,by show (ZcT (xs.drop 0)).map ((Zao _).map Ab.byteOf++·)=_;rw [Zbf];rfl⟩ (by (exact plei)) ?_
 rintro ⟨k,ep,els⟩ hI
 obtain ⟨hk,hb,hle,he⟩:k≤xs.length∧(∀ x ∈ els,Ab.isByte x=true)∧els.length≤6 + 6 * k∧(ZcT (xs.drop k)).map (els.map Ab.byteOf++·)=(ZcT xs).map (Zaf xs.length++·):=hI
 refine pln ?_
 by_cases hkl:k < xs.length
 ·rw [ZmU hkl] at he
  by_cases hs:signless (xs.getD k default) < 0
  ·rw [if_pos hs] at he
   rw [Zf4 he.symm]
   repeat' (first|refine pa ?_|(refine pb ?_ ?_<;>intro hg)|(refine Zab (n:=20) ?_;(first|refine Zaa (Zeu _) ?_))|refine po ?_|fail)
   exact pfr
  ·rw [if_neg hs,ZkO] at he
   have hel:=ZaA (signless (xs.getD k default))
   repeat' (first|refine pa ?_|(refine pb ?_ ?_<;>intro hg)|(refine Zab (n:=20) ?_;(first|refine Zaa (Zeu _) ?_|refine Zaa (Zcb _) ?_))|refine po ?_|fail)
   refine ⟨(k + 1,_,_),⟨?_,Zfx hb ZhH,?_,?_⟩,?_,by (exact ple)⟩
   ·show k + 1≤xs.length;omega
   ·show (els++List.map _ _).length≤6 + 6 * (k + 1);rw [List.length_append,List.length_map];omega
   ·have e9:(els++(Zaf (signless (xs.getD k default))).map fun c=>[T.int .u8 (c.toNat:Nat)]).map Ab.byteOf=els.map Ab.byteOf++Zaf (signless (xs.getD k default)):=by rw [List.map_append,Zgw]
    exact (congrArg (fun z=>(ZcT (xs.drop (k + 1))).map (z++·)) e9).trans he
   ·show xs.length - (k + 1) < xs.length - k;omega
 ·rw [ZkM hkl] at he
  rw [Zf5 he.symm]
  repeat' (first|refine pa ?_|(refine pb ?_ ?_<;>intro hg)|(refine Zab (n:=20) ?_;(first|refine Zaa (Zeu _) ?_))|refine po ?_|fail)
  refine pfin ?_
  exact .inl (congrArg T.str (by simp))
def Zer (l:Lv) (n seed:Int):Prop:=ZaZ l∧(1≤n∧n≤4)∧0≤seed∧seed≤65535
noncomputable instance (l:Lv) (n seed:Int):Decidable (Zer l n seed):=Classical.propDecidable _
noncomputable def ZeI (l:Lv) (n seed:Int):Wd:=if Zer l n seed then newV l n.toNat seed else ⟨[],0,0,[],[]⟩
noncomputable def ZsD (l:Lv) (n seed me delay ahead ft fp fa:Int):Pr:=⟨me,delay,ahead,seed,List.replicate n.toNat (List.replicate delay.toNat 0),ZeI l n seed,ZeI l n seed,[],[],[Zgm (ZeI l n seed)],ft,fp,fa,0,0⟩
def ZsV (l:Lv) (n seed me delay ahead ft fp fa:Int):Prop:=Zer l n seed∧(0≤delay∧delay≤5)∧Zb9 (ZsD l n seed me delay ahead ft fp fa)=true
noncomputable instance (l:Lv) (n seed me delay ahead ft fp fa:Int):Decidable (ZsV l n seed me delay ahead ft fp fa):=Classical.propDecidable _
end Go.Proofs.YthfaongbpdnlnaaGreat
