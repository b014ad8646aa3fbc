/- What is proved: contracts on learning from a packet. Conditions: as each lemma says. -/
import Derived.Test.YthfaongbpdnlnaaGreatQPC
import Derived.Test.YthfaongbpdnlnaaGreatQV31
import Derived.Test.YthfaongbpdnlnaaGreatQAbsVf
namespace Go.Proofs.YthfaongbpdnlnaaGreat
set_option maxHeartbeats 4000000
set_option maxRecDepth 20000
set_option linter.unusedSimpArgs false
set_option linter.unusedVariables false
open Go.RowKit Ab
theorem ZrT {X Y:Prop} (h:Y) (r:Hld Y→X:=by intro h;(apply pdq 9;(focus exact pdp);(focus ((refine pt0_ 0 ?_<;>refine pt0_ 1 ?_<;>refine Za7 2 ?_<;>refine pt7_ 3 ?_<;>refine pt0_ 4 ?_<;>refine pt0_ 5 ?_<;>refine Za7 6 ?_<;>refine pt7_ 7 ?_<;>refine Zbh 8 ?_<;>(refine ZaI ?_;exact ZaJ)))));exact h.out):X:=r ⟨h⟩
theorem Zr3 (a b:List Int):AC Tryz.prog 136 [.t (ints 3 a),.t (ints 3 b)] (.t (.bool (decide (a=b)))):=by
 refine AC.go Tryz.func136 Tryz.ntmps136 fun B W hr=>?_
 obtain ⟨us,hus⟩:=hr
 have hla:=(Zga (ZaR hus (i:=0) rfl)).1
 have hlb:=(Zga (ZaR hus (i:=1) rfl)).1
 clear hus
 by_cases hl:a.length=b.length
 ·repeat' (first|refine pa ?_|(refine pb ?_ ?_<;>intro hg)|refine po ?_|(refine ZrT ?_)|fail)
  all_goals try (exfalso;omega)
  refine aW.loopF rfl (fun q:Nat=>[(13,.t (.int .i64 q))]) [(12,_),(1,_),(0,_)] (fun q=>[]) [] (fun q=>q≤a.length∧a.take q=b.take q) (fun q=>a.length - q) 0 ⟨Nat.zero_le _,rfl⟩ (by (exact plei)) ?_
  rintro k ⟨hk,he⟩
  refine pln ?_
  by_cases hkn:k < a.length
  ·by_cases hx:a.getD k default=b.getD k default
   ·repeat' (first|refine pa ?_|(refine pb ?_ ?_<;>intro hg)|refine po ?_|(refine ZrT ?_)|fail)
    exact ⟨k + 1,⟨hkn,by rw [List.take_succ_eq_append_getElem hkn,List.take_succ_eq_append_getElem (by omega),he,← Zb6 hkn,← Zb6 (show k < b.length by omega),hx]⟩,by omega,by (exact ple)⟩
   ·have hne:a ≠ b:=fun e=>hx (by rw [e])
    rw [decide_eq_false hne]
    repeat' (first|refine pa ?_|(refine pb ?_ ?_<;>intro hg)|refine po ?_|(refine ZrT ?_)|fail)
    exact pfr
  ·have hab:a=b:=by rwa [List.take_of_length_le (by omega),List.take_of_length_le (by omega)] at he
   rw [decide_eq_true hab]
   repeat' (first|refine pa ?_|(refine pb ?_ ?_<;>intro hg)|refine po ?_|(refine ZrT ?_)|fail)
   exact pfr
 ·have hne:a ≠ b:=fun e=>hl (by rw [e])
  rw [decide_eq_false hne]
  repeat' (first|refine pa ?_|(refine pb ?_ ?_<;>intro hg)|refine po ?_|(refine ZrT ?_)|fail)
  all_goals first
   | (refine pfin ?_;exact .inl rfl)
   | (exfalso;omega)
theorem Zex (xs:List Int) (hx:xs.length≤1048576):AC Tryz.prog 150 [.t (ints 3 xs)] (.fr true 3 (Zak xs)):=by
 refine AC.go Tryz.func150 Tryz.ntmps150 fun B W hr=>?_
 repeat' (first|refine pa ?_|(refine pb ?_ ?_<;>intro hg)|refine po ?_|fail)
 refine pfin ?_
 exact rfl
theorem ZjV (s:List UInt8) (hs:s.length≤1073741824):AC Tryz.prog 208 [.t (.str s)] (.t (.str (Za1 s))):=by
 have hv:=Zcb (s.length:Int)
 have hl:=ZaA (s.length:Int)
 have hmx:maxLen=9223372036854775807:=rfl
 refine AC.go Tryz.func208 Tryz.ntmps208 fun B W hr=>?_
 repeat' (first|refine pa ?_|(refine pb ?_ ?_<;>intro hg)|(refine z9 ?_;(refine Zaa hv ?_))|refine po ?_|fail)
 exact pfr
theorem Zcq {xs:List Int} {k n i:Nat} (h:i < n):((xs.drop k).take n).getD i 0=xs.getD (k + i) 0:=by
 rw [List.getD_eq_getElem?_getD,List.getElem?_take,if_pos h,List.getElem?_drop,← List.getD_eq_getElem?_getD]
theorem ZnA {xs:List Int} {k:Nat}:Zcj ((xs.drop k).take 9) 0=Zcj xs k:=by
 unfold Zcj
 rw [Zcq (by omega),Zcq (by omega),Zcq (by omega),Zcq (by omega),Zcq (by omega),Zcq (by omega),Zcq (by omega),Zcq (by omega),Zcq (by omega)]
 rfl
theorem Zmm {w:Wd} (h:ZaW w=true):w.bodies.length≤24:=(Zax.1 h).m.2
theorem Zkd (r:List Int):(ZbI r).length=r.length / 9:=by simp [ZbI]
theorem Zlr (a b:List UInt8) (hb:b.length≤1048576):AC Tryz.prog 154 [.t (.str a),.t (.str b)] (.t (.str (ZbB a b))):=by
 refine AC.go Tryz.func154 Tryz.ntmps154 fun B W hr=>?_
 repeat' (first|refine pa ?_|(refine pb ?_ ?_<;>intro hg)|refine po ?_|fail)
 refine aW.loopF rfl (fun q:Nat=>[(6,.t (.int .i64 q))]) [(0,_),(4,_),(5,_)] (fun q=>[(8,1,.row true true 5 (Zao (ZbL a b q)))]) [] (fun q=>q≤b.length) (fun q=>b.length - q) 0 (Nat.zero_le _) (by (exact plei)) ?_
 intro k hk
 have hk:k≤b.length:=hk
 have hxl:=Zh7 (a:=a) hk
 have hxe:(Zao (ZbL a b k)).length=b.length:=Zc8.trans hxl
 refine pln ?_
 by_cases hkb:k < b.length
 ·by_cases hka:(k:Int) < a.length
  ·repeat' (first|refine pa ?_|(refine pb ?_ ?_<;>intro hg)|refine po ?_|(refine pdr [] 10 (by (apply pct 10 1023 0;(focus (intro hd2;(apply pct 10 127 3;(focus (intro hd1;(refine pt0_ 0 ?_<;>refine pt0_ 1 ?_<;>refine Za7 2 ?_<;>refine pt0_ 4 ?_<;>refine pt0_ 5 ?_<;>refine pt18_ 6 ?_<;>(refine pq1 3 ?_;(focus ((refine pop ?_;refine pk7 ?_)<;>(exact ptm hd1)))))));(case main=>(refine Zbh 7 ?_<;>refine Za7 8 ?_<;>(refine pq1 9 ?_;(focus ((refine pop ?_;refine pk8 ?_)<;>(exact ptm hd2)))))))));(case main=>((refine ZaI ?_;exact ZaJ))))) ?_)|fail)
   rw [Zpv hkb hka]
   exact ⟨k + 1,hkb,by omega,by (exact ple)⟩
  ·repeat' (first|refine pa ?_|(refine pb ?_ ?_<;>intro hg)|refine po ?_|fail)
   rw [Zej (.inr (by omega))]
   refine pfin ?_
   exact .inl (congrArg T.str (Zbf _))
 ·repeat' (first|refine pa ?_|(refine pb ?_ ?_<;>intro hg)|refine po ?_|fail)
  rw [Zej (.inl (by omega))]
  refine pfin ?_
  exact .inl (congrArg T.str (Zbf _))
theorem Zi0 (s:List UInt8) (hs:s.length≤1048576):AC Tryz.prog 153 [.t (.str s)] (.t (.str (Zau s))):=by
 have hmx:maxLen=9223372036854775807:=rfl
 refine AC.go Tryz.func153 Tryz.ntmps153 fun B W hr=>?_
 repeat' (first|refine pa ?_|(refine pb ?_ ?_<;>intro hg)|refine po ?_|fail)
 refine aW.nilrow (s:=3) (i:=30) true 5 rfl rfl ?_
 refine aW.loopF rfl (fun q:Nat×Nat×List (List T)=>[(4,.t (.int .i64 q.1)),(3,.hnd 30 q.2.1)]) [(0,_),(2,_)] (fun q=>[(30,q.2.1,.row true true 5 q.2.2)]) [] (fun q=>q.1≤s.length∧(∀ x ∈ q.2.2,Ab.isByte x=true)∧q.2.2.length≤13 * q.1∧q.2.2.map Ab.byteOf++Zau (s.drop q.1)=Zau s) (fun q=>s.length - q.1) (0,1,[]) ⟨Nat.zero_le _,ZhG,Nat.zero_le _,rfl⟩ (by (exact plei)) ?_
 rintro ⟨i,ep,els⟩ hI
 obtain ⟨hi,hb,hle,he⟩:i≤s.length∧(∀ x ∈ els,Ab.isByte x=true)∧els.length≤13 * i∧els.map Ab.byteOf++Zau (s.drop i)=Zau s:=hI
 refine pln ?_
 by_cases his:i < s.length
 ·have hp:=ZmV his
  have hmo:=ZkR his
  have hz1:=Zmo hi
  have hz2:=fun k=>@zEnd_at s i k
  have hz3:=@zEnd_end s i
  generalize hm:zEnd s i=m at hp hmo hz1 hz2 hz3
  have ho1:=Zl9 hz1.2
  have ho2:=fun k=>@oEnd_at s m k
  have ho3:=@oEnd_end s m
  generalize ho:oEnd s m=o at hp hmo ho1 ho2 ho3
  repeat' (first|(refine pth ?_)|((fail_if_success (with_reducible first|refine pA1 5 ?_|refine pA2 5 ?_|refine pA3 5 ?_));(first|refine pc ?_|(refine pbc ?_ ?_<;>intro hg)))|(first|refine pl ?_|(refine pbl ?_ ?_<;>intro hg))|(refine po ?_)|fail)
  refine aW.joinF rfl (fun z:Nat=>[(4,.t (.int .i64 z))]) [(0,_),(2,_),(3,_),(5,_)] (fun z:Nat=>[]) [(30,_,_)] (fun z:Nat=>z=m) i (by (exact plei)) ?_ ?_
  ·refine aW.loopF rfl (fun q:Nat=>[(4,.t (.int .i64 q))]) [(0,_),(2,_),(3,_),(5,_)] (fun q=>[]) [(30,_,_)] (fun q=>i≤q∧q≤m) (fun q=>m - q) i ⟨Nat.le_refl _,hz1.1⟩ (by (exact plei)) ?_
   rintro k hI
   obtain ⟨hk1,hk2⟩:i≤k∧k≤m:=hI
   refine pln ?_
   by_cases hkm:k < m
   ·have h0:=hz2 k hk1 hkm
    repeat' (first|refine pa ?_|(refine pb ?_ ?_<;>intro hg)|refine po ?_|fail)
    exact ⟨k + 1,⟨by omega,by omega⟩,by omega,by (exact ple)⟩
   ·obtain rfl:k=m:=by omega
    by_cases hkl:k < s.length
    ·have h0:=hz3 hkl
     repeat' (first|refine pa ?_|(refine pb ?_ ?_<;>intro hg)|refine po ?_|fail)
     exact .inl ⟨rfl,k,rfl,by (exact ple)⟩
    ·repeat' (first|refine pa ?_|(refine pb ?_ ?_<;>intro hg)|refine po ?_|fail)
     exact .inl ⟨rfl,k,rfl,by (exact ple)⟩
  rintro z hz
  have hz:m=z:=Eq.symm hz
  subst hz
  refine pln ?_
  repeat' (first|(refine pth ?_)|((fail_if_success (with_reducible first|refine pA1 8 ?_|refine pA2 8 ?_|refine pA3 8 ?_));(first|refine pc ?_|(refine pbc ?_ ?_<;>intro hg)))|(first|refine pl ?_|(refine pbl ?_ ?_<;>intro hg))|(refine po ?_)|fail)
  refine aW.joinF rfl (fun z:Nat=>[(4,.t (.int .i64 z))]) [(0,_),(2,_),(3,_),(5,_),(6,_)] (fun z:Nat=>[]) [(30,_,_)] (fun z:Nat=>z=o) m (by (exact plei)) ?_ ?_
  ·refine aW.loopF rfl (fun q:Nat=>[(4,.t (.int .i64 q))]) [(0,_),(2,_),(3,_),(5,_),(6,_)] (fun q=>[]) [(30,_,_)] (fun q=>m≤q∧q≤o) (fun q=>o - q) m ⟨Nat.le_refl _,ho1.1⟩ (by (exact plei)) ?_
   rintro k hI
   obtain ⟨hk1,hk2⟩:m≤k∧k≤o:=hI
   refine pln ?_
   by_cases hkm:k < o
   ·have h0:=ho2 k hk1 hkm
    repeat' (first|refine pa ?_|(refine pb ?_ ?_<;>intro hg)|refine po ?_|fail)
    exact ⟨k + 1,⟨by omega,by omega⟩,by omega,by (exact ple)⟩
   ·obtain rfl:k=o:=by omega
    by_cases hkl:k < s.length
    ·have h0:=ho3 hkl
     repeat' (first|refine pa ?_|(refine pb ?_ ?_<;>intro hg)|refine po ?_|fail)
     exact .inl ⟨rfl,k,rfl,by (exact ple)⟩
    ·repeat' (first|refine pa ?_|(refine pb ?_ ?_<;>intro hg)|refine po ?_|fail)
     exact .inl ⟨rfl,k,rfl,by (exact ple)⟩
  rintro z hz
  have hz:o=z:=Eq.symm hz
  subst hz
  refine pln ?_
  have hv:=Zcb ((m - i:Nat):Int)
  have hvl:=ZaA ((m - i:Nat):Int)
  obtain ⟨t,ht⟩:∃ t,t=List.take ((o:Int).toNat - (m:Int).toNat) (List.drop (m:Int).toNat s):=⟨_,rfl⟩
  have htl:t.length=o - m:=by rw [ht,List.length_take,List.length_drop];omega
  have htp:(s.take o).drop m=t:=by rw [ht,List.drop_take,Int.toNat_natCast,Int.toNat_natCast]
  have hw:=ZjV t (by omega)
  have hwl:(Za1 t).length≤6 + (o - m):=by
   have:=ZaA (t.length:Int)
   rw [Za1,List.length_append]
   omega
  have hmi:((m - i:Nat):Int)=(m:Int) - i:=by omega
  rw [htp] at hp
  rw [hmi] at hv hvl hp
  rw [ht] at hw hwl hp
  have hwl2:=hwl
  rw [Int.toNat_natCast,Int.toNat_natCast] at hwl2
  repeat' (first|refine pa ?_|(refine pb ?_ ?_<;>intro hg)|(refine z9 ?_;(first|refine Zaa hv ?_|refine Zaa hw ?_))|refine po ?_|fail)
  refine ⟨(o,_,_),⟨hmo.2,Zfx (Zfx hb ZhH) ZhH,?_,?_⟩,?_,by (exact ple)⟩
  ·show (els++List.map _ _++List.map _ _).length≤13 * o
   rw [List.length_append,List.length_append,List.length_map,List.length_map]
   omega
  ·show (els++List.map _ _++List.map _ _).map Ab.byteOf++Zau (s.drop o)=Zau s
   rw [List.map_append,List.map_append,Zgw,Zgw,← he,hp]
   simp only [List.append_assoc]
  ·show s.length - o < s.length - i
   omega
 ·rw [List.drop_of_length_le (by omega),Zf6,List.append_nil] at he
  repeat' (first|refine pa ?_|(refine pb ?_ ?_<;>intro hg)|refine po ?_|fail)
  refine pfin ?_
  exact .inl (congrArg T.str he)
end Go.Proofs.YthfaongbpdnlnaaGreat
namespace Go.Proofs.YthfaongbpdnlnaaGreat.Ab
set_option maxHeartbeats 4000000
set_option maxRecDepth 20000
set_option linter.unusedSimpArgs false
set_option linter.unusedVariables false
open Go.RowKit
section
variable {P:Program} {B:Nat→Prop} {W:En} {st:St} {o:Oper} {KE:V→List (Nat×Nat×Ob)→Prop}
theorem OpS.eql_nil {x y:Operand} {t t':TypeId} {fl:Bool} {e e' es eb:Nat} {els:List (List T)} {z:Ty} (ho:o.op=.binOp .eql t x y t') (hz:Zac P t=some z) (hk:z.k=.slice e' es eb) (hx:st.ev x=.t (.lst fl e els)) (hy:st.ev y=.t .nil) (hne:els.flatten.length ≠ 0) (hK:KE (.t (.bool false)) []):OpS P B W o st KE :=
 OpS.pure_ hK fun a w pl F hs=>by
  refine ⟨.bool false,?_,Rd.bool⟩
  obtain ⟨A,c,us,h1,h2,h3,h4,h5,h6,h7,h8⟩:=hs.lst_at hx
  obtain ⟨ad,hA,_⟩:=h7 (fun h=>hne (by rw [h6,h];rfl))
  obtain ⟨hu,_,_⟩:=ZaM hz hk
  unfold execOp
  rw [ho]
  refine Zap ?_
  rw [h1,hs.nil_at hy,hA]
  have h9:(eqGuard .eql t x y (.slice (some ad) els.length c) (.slice none 0 0)).run P w=.ok () w:=rfl
  have h10:(binOp .eql t (.slice (some ad) els.length c) (.slice none 0 0)).run P w=.ok (.bool false) w:=by
   show ((Op.equal t (.slice (some ad) els.length c) (.slice none 0 0)) >>= fun b=>pure (Value.bool b):Sem Value).run P w=_
   rw [Sem.run_bind,run_equal_slice_nil w t e' (some ad) els.length c hu]
   rfl
  rw [Sem.run_bind,h9,Result.andThen_ok,h10]
end
end Go.Proofs.YthfaongbpdnlnaaGreat.Ab
namespace Go.Proofs.YthfaongbpdnlnaaGreat
set_option maxHeartbeats 4000000
set_option maxRecDepth 20000
set_option linter.unusedSimpArgs false
set_option linter.unusedVariables false
theorem Zjr {b:List UInt8} {xs:List Sv} {k:Nat} (hk:k≤xs.length) (h:Zba b (xs.take k)=none):Zba b xs=none:=by
 have:=ZfU h hk
 rwa [List.take_length] at this
end Go.Proofs.YthfaongbpdnlnaaGreat
namespace Go.Proofs.YthfaongbpdnlnaaGreat.Ab
set_option maxHeartbeats 4000000
set_option maxRecDepth 20000
set_option linter.unusedSimpArgs false
set_option linter.unusedVariables false
open Go.RowKit
theorem pk13 {X Y:Prop} (h:Y) (r:Hld Y→X:=by intro h;(refine Zab (n:=13) ?_;(exact qc70f h.out))):X:=r ⟨h⟩
end Go.Proofs.YthfaongbpdnlnaaGreat.Ab
namespace Go.Proofs.YthfaongbpdnlnaaGreat
set_option maxHeartbeats 4000000
set_option maxRecDepth 20000
set_option linter.unusedSimpArgs false
set_option linter.unusedVariables false
open Go.RowKit Ab
def Zbr (ts:TS) (a:Int) (n:Nat):TS:=(List.range n).map fun i:Nat=>(rowV ts (a + (i:Int))).1
noncomputable def runF (t p a:Int) (w:Wd):TS→Wd
 | []=>w
 | row :: r=>runF t p a (ZbA (ZbY w row) w t p a) r
theorem Zm1 (t p a:Int):∀ (xs ys:TS) (w:Wd),runF t p a w (xs++ys)=runF t p a (runF t p a w xs) ys
 | [],_,_=>rfl
 | _ :: xs,ys,w=>Zm1 t p a xs ys _
theorem ZpO {t p a:Int} {w:Wd} {row:List Int} (h:ZaV w) (ht:w.tick ≠ 100000) (hr:ZbD row w.scores.length=true):(ZbA (ZbY w row) w t p a).tick=w.tick + 1∧(ZbA (ZbY w row) w t p a).level=w.level∧(ZbA (ZbY w row) w t p a).scores.length=w.scores.length∧ZaV (ZbA (ZbY w row) w t p a):=by
 obtain ⟨a1,a2,a3,a4⟩:=Zpd h ht hr
 obtain ⟨b1,b2,b3,b4⟩:=Zkp (w:=w) (t:=t) (p:=p) (a:=a) a4
 exact ⟨b1.trans a1,b2.trans a2,b3.trans a3,b4⟩
theorem ZoW {t p a:Int} {n:Nat}:∀ {rows:TS} {w:Wd},ZaV w→w.scores.length=n→(∀ r ∈ rows,ZbD r n=true)→w.tick + (rows.length:Int)≤100000 →
  ZaV (runF t p a w rows)∧(runF t p a w rows).tick=w.tick + (rows.length:Int)∧(runF t p a w rows).level=w.level∧(runF t p a w rows).scores.length=n
 | [],w,h,hn,_,_=>⟨h,by show w.tick=w.tick + ((0:Nat):Int);omega,rfl,hn⟩
 | row :: r,w,h,hn,hr,ht=>by
  have hl:(row :: r).length=r.length + 1:=rfl
  rw [hl] at ht
  obtain ⟨a1,a2,a3,a4⟩:=ZpO (t:=t) (p:=p) (a:=a) h (by omega) (by rw [hn];exact hr row (List.mem_cons_self ..))
  obtain ⟨b1,b2,b3,b4⟩:=ZoW (t:=t) (p:=p) (a:=a) (rows:=r) a4 (a3.trans hn) (fun x hx=>hr x (List.mem_cons_of_mem _ hx)) (by omega)
  refine ⟨b1,b2.trans ?_,b3.trans a2,b4⟩
  rw [hl,a1]
  omega
theorem ZnO (ts:TS) (b:Int) (n:Nat):Zbr ts b (n + 1)=Zbr ts b n++[(rowV ts (b + (n:Int))).1]:=by
 unfold Zbr
 rw [List.range_succ,List.map_append]
 rfl
theorem Zdk (ts:TS) (b:Int) (n:Nat):(Zbr ts b n).length=n:=by simp [Zbr]
theorem ZgF {ts:TS} {b:Int} {n k:Nat} (h:k < n):(Zbr ts b n).getD k default=(rowV ts (b + k)).1:=by simp [Zbr,h]
theorem Zp5 {n k:Nat}:(List.replicate n (0:Int)).getD k default=0:=by
 rw [List.getD_eq_getElem?_getD,List.getElem?_replicate]
 split<;>rfl
theorem ZtK {l:Lv} {n:Nat} {seed:Int} (hl:ZaZ l) (hn:1≤n∧n≤4) (hs:0≤seed∧seed≤65535):ZaV (newV l n seed):=by
 have hsc:(newV l n seed).scores.length=n:=List.length_replicate
 have hb:(newV l n seed).bodies.length=n:=by show ((List.range n).map _).length=n;rw [List.length_map,List.length_range]
 have hg:∀ k,k < n→(newV l n seed).bodies.getD k default=Zfn l k:=fun k hk=>by
  show ((List.range n).map _).getD k default=_
  rw [List.getD_eq_getElem?_getD,List.getElem?_map,List.getElem?_range hk]
  rfl
 refine ⟨hl,by show (0:Int)≤0∧(0:Int)≤100000;omega,hs,by rw [hsc];exact hn,fun k _=>?_,by rw [hsc,hb];omega,fun k hk=>?_,fun k hk=>?_,fun k h1 h2=>?_⟩
 ·show 0≤(List.replicate n (0:Int)).getD k default∧(List.replicate n (0:Int)).getD k default≤1000000
  rw [Zp5];omega
 ·rw [hb] at hk
  rw [hg k hk,hsc]
  exact ZmA hl (by omega) (by omega) (by omega)
 ·rw [hsc] at hk
  rw [hg k hk]
  exact ⟨rfl,rfl⟩
 ·rw [hsc] at h1
  rw [hb] at h2
  omega
theorem ZiC (bs:List Bd) (b:Bd):(bs++[b]).map bodyC=bs.map bodyC++[bodyC b]:=by rw [List.map_append];rfl
noncomputable def upV (l:Lv) (k:Nat):List Bd:=(List.range k).map fun j:Nat=>Zfn l (j:Int)
theorem Znl (l:Lv) (k:Nat):upV l (k + 1)=upV l k++[Zfn l (k:Int)]:=by
 unfold upV
 rw [List.range_succ,List.map_append]
 rfl
theorem Zp6 (k:Nat):List.replicate (k + 1) (0:Int)=List.replicate k 0++[0]:=List.replicate_succ'
theorem Zl3 (zs:List Int) (y:Int):Zak (zs++[y])=Zak zs++[[T.int .i64 y]]:=by simp [Zak,intC]
theorem ZhN {l:Lv} {n:Nat} {seed:Int}:ZaV (newV l n seed)↔Zer l n seed:=by
 have hsc:(newV l n seed).scores.length=n:=List.length_replicate
 constructor
 ·intro h
  have h1:=h.n
  rw [hsc] at h1
  exact ⟨h.level,by omega,h.seed⟩
 ·rintro ⟨h1,h2,h3⟩
  exact ZtK h1 (by omega) h3
theorem Zh5 {l:Lv} {n:Nat} {seed:Int}:ZaW (newV l n seed)=decide (Zer l n seed):=by
 by_cases h:Zer l n seed
 ·rw [decide_eq_true h];exact Zax.2 (ZhN.2 h)
 ·rw [decide_eq_false h];exact ZaF fun e=>h (ZhN.1 e)
theorem Zj4 (l:Lv) (n seed:Int) (hl:l.length≤1048576) (v:Wd) (hv:v=ZeI l n seed):AC Tryz.prog 62 [.agg [.t (.lst true 9 (Zai l))],.t (.int .i64 n),.t (.int .i64 seed)] (.tup [.agg [.fr true 9 (Zai v.level),.t (.int .i64 v.tick),.t (.int .i64 v.seed),.fr true 3 (Zak v.scores),.fr true 114 (v.bodies.map bodyC)],.t (.bool (decide (Zer l n seed)))]):=by
 have hc:=ZcW l hl
 refine AC.go Tryz.func62 Tryz.ntmps62 fun B W hr=>?_
 repeat' (first|refine pa ?_|(refine pb ?_ ?_<;>intro hg)|(refine z9 ?_;(refine pz3 hc ?_))|refine po ?_|fail)
 refine aW.nilcell (o:=8) (i:=500) (k:=3) true 3 rfl rfl rfl rfl rfl ?_
 refine aW.nilcell (o:=8) (i:=501) (k:=4) true 114 rfl rfl rfl rfl rfl ?_
 refine aW.loopF rfl (fun q:Nat×Nat×Nat=>[(9,.t (.int .i64 q.1))]) [(1,_),(3,_),(6,_),(7,_),(8,_)] (fun q=>[(8,1,.box 30 [.hnd (1000 * 11) 1,.t (.int .i64 0),.t (.int .i64 seed),.hnd 500 q.2.1,.hnd 501 q.2.2]),(500,q.2.1,.row true true 3 (Zak (List.replicate q.1 0))),(501,q.2.2,.row true true 114 ((upV l q.1).map bodyC))]) [(3,_,_),(6,_,_),(1000 * 11,_,_)] (fun q=>q.1≤5∧(q.1=0∨(q.1:Int)≤n)) (fun q=>5 - q.1) (0,1,1) ⟨Nat.zero_le _,.inl rfl⟩ (by (exact plei)) ?_
 rintro ⟨k,e1,e2⟩ hI
 obtain ⟨hk5,hkn0⟩:k≤5∧(k=0∨(k:Int)≤n):=hI
 have hz1:(Zak (List.replicate k 0)).length=k:=by rw [Zal,List.length_replicate]
 have hz2:((upV l k).map bodyC).length=k:=by rw [List.length_map,upV,List.length_map,List.length_range]
 have hz3:(upV l k).length=k:=by rw [upV,List.length_map,List.length_range]
 have hf:=ZgJ l k
 refine pln ?_
 by_cases hk:(k:Int) < n∧k < 5
 ·obtain ⟨hk1,hk2⟩:=hk
  repeat' (first|refine pa ?_|(refine pb ?_ ?_<;>intro hg)|refine ZaX ?_|(refine z9 ?_;(refine Zaa hf ?_))|refine po ?_|(refine pdr [3] 9 (by (apply pct 9 511 0;(focus (intro hd7;(apply pct 9 127 2;(focus (intro hd6;(apply pct 9 63 3;(focus (intro hd5;(apply pct 9 61 4;(focus (intro hd4;(apply pct 9 31 4;(focus (intro hd3;(apply pct 9 29 5;(focus (intro hd2;(apply pct 9 15 5;(focus (intro hd1;(refine ZaC 0 ?_<;>refine pt7_ 2 ?_<;>refine pt0_ 3 ?_<;>(refine pq2 1 4 ?_ ?_;(focus ((refine pop ?_;refine pk7 ?_)<;>(exact ptm hd1)));(focus ((refine pop ?_;(refine z9 ?_;(refine Zaa hf ?_)))<;>(exact ptm hd2)))))));(case main=>((refine pq1 4 ?_;(focus ((refine pop ?_;(refine z9 ?_;(refine Zaa hf ?_)))<;>(exact ptm hd3)))))))));(case main=>((refine pq2 1 5 ?_ ?_;(focus ((refine pop ?_;refine pk7 ?_)<;>(exact ptw hd3)));(focus ((refine pop ?_;(first|refine ZaX ?_|refine pk6 ?_))<;>(exact ptm hd4)))))))));(case main=>((refine pq1 5 ?_;(focus ((refine pop ?_;(first|refine ZaX ?_|refine pk6 ?_))<;>(exact ptm hd5)))))))));(case main=>((refine pq1 1 ?_;(focus ((refine pop ?_;refine pk7 ?_)<;>(exact ptw hd5)))))))));(case main=>((refine pq1 6 ?_;(focus ((refine pop ?_;refine pk20 ?_)<;>(exact ptm hd6)))))))));(case main=>(refine ZaC 7 ?_<;>(refine pq1 8 ?_;(focus ((refine pop ?_;refine pk8 ?_)<;>(exact ptm hd7)))))))));(case main=>((refine ZaI ?_;exact ZaJ))))) ?_)|fail)
  exact ⟨(k + 1,e1 + 1,e2 + 1),⟨hk2,.inr (by show ((k + 1:Nat):Int)≤n;omega)⟩,by show 5 - (k + 1) < 5 - k;omega,by rw [Zp6,Znl,Zl3,ZiC];(exact ple)⟩
 ·have hw:=Zdd l 0 seed (List.replicate k 0) (upV l k)
  rw [show (⟨l,0,seed,List.replicate k 0,upV l k⟩:Wd)=newV l k seed from rfl] at hw
  rw [Zh5] at hw
  have v4:(newV l k seed).scores=List.replicate k 0:=rfl
  have v5:(newV l k seed).bodies=upV l k:=rfl
  have v1:(newV l k seed).level=l:=rfl
  have v2:(newV l k seed).tick=0:=rfl
  have v3:(newV l k seed).seed=seed:=rfl
  have hiff:Zer l k seed↔Zer l n seed:=by
   constructor
   ·rintro ⟨h1,h2,h3⟩
    exact ⟨h1,by omega,h3⟩
   ·rintro ⟨h1,h2,h3⟩
    exact ⟨h1,by omega,h3⟩
  by_cases hok:Zer l n seed
  ·have hkn:n=k:=by have:=hok.2.1;omega
   subst hkn
   rw [decide_eq_true hok] at hw ⊢
   rw [ZeI,if_pos hok,Int.toNat_natCast] at hv
   rw [hv,v1,v2,v3,v4,v5]
   repeat' (first|refine pa ?_|(refine pb ?_ ?_<;>intro hg)|(refine z9 ?_;(refine Zaa hw ?_))|refine po ?_|fail)
   exact pfg
  ·rw [decide_eq_false fun e=>hok (hiff.1 e)] at hw
   rw [decide_eq_false hok]
   rw [ZeI,if_neg hok] at hv
   subst hv
   repeat' (first|refine pa ?_|(refine pb ?_ ?_<;>intro hg)|(refine z9 ?_;(refine Zaa hw ?_))|refine po ?_|fail)
   all_goals refine pfin ?_
   all_goals (exact pgiv)
def Zsq (t:List Int) (f:Nat) (ins:List Int):Bool:=decide (∀ k,k < ins.length→f + k < t.length→t.getD (f + k) 0=ins.getD k 0)
theorem ZtV (t:List Int) (f:Nat):Zsq t f []=true:=by simp [Zsq]
theorem ZsQ {t ins:List Int} {f k:Nat} (hk:k < ins.length) (h:Zsq t f (ins.take k)=true) (hx:∀ (h:f + k < t.length),t[f + k]=ins[k]):Zsq t f (ins.take (k + 1))=true:=by
 unfold Zsq at *
 rw [decide_eq_true_eq] at *
 intro j hj hjt
 simp only [List.length_take] at hj
 by_cases e:j < k
 ·have:=h j (by simp only [List.length_take];omega) hjt
  rw [this]
  simp [List.getD_eq_getElem?_getD,List.getElem?_take,e,show j < k + 1 by omega]
 ·have e2:j=k:=by omega
  subst e2
  have:=hx hjt
  simp [List.getD_eq_getElem?_getD,hjt,hk,this]
theorem ZtW {t ins:List Int} {f k:Nat} (hk:k < ins.length) (hf:f + k < t.length) (hx:t[f + k] ≠ ins[k]):Zsq t f ins=false:=by
 unfold Zsq
 rw [decide_eq_false_iff_not]
 intro h
 have:=h k hk hf
 simp [List.getD_eq_getElem?_getD,hf,hk] at this
 exact hx this
def Ztj (t:List Int) (first:Int) (ins:List Int):Bool :=
 ZaH t && decide (0≤first∧first≤t.length) && decide ((ins.length:Int)≤400 - first) && Zbl ins && Zsq t first.toNat ins
def Zsl (t:List Int) (f:Nat) (ins:List Int):List Int:=t++ins.drop (t.length - f)
def Zka (t:List Int) (first:Int) (ins:List Int):List Int×Bool:=if Ztj t first ins=true then (Zsl t first.toNat ins,true) else (t,false)
theorem Ztl {t ins:List Int} {f k:Nat} (hk:k < ins.length) (hf:f≤t.length):Zsl t f (ins.take (k + 1))=if f + k < t.length then Zsl t f (ins.take k) else Zsl t f (ins.take k)++[ins[k]]:=by
 unfold Zsl
 split
 ·rw [List.drop_of_length_le (by simp;omega),List.drop_of_length_le (by simp;omega)]
 ·rw [List.take_succ_eq_append_getElem hk,List.drop_append_of_le_length (by simp;omega),List.append_assoc]
theorem ZsF {t ins:List Int} {f:Nat} (hf:f≤t.length):(Zsl t f ins).length=max t.length (f + ins.length):=by
 unfold Zsl
 rw [List.length_append,List.length_drop]
 omega
theorem Zuk (t:List Int) (f:Nat):Zsl t f []=t:=by simp [Zsl]
theorem Zuj {t ins:List Int} {f k:Nat} (hk:k < ins.length) (hf:f≤t.length) (h:¬ f + k < t.length):Zak (Zsl t f (ins.take (k + 1)))=Zak (Zsl t f (ins.take k))++[[T.int .i64 (ins.getD k default)]]:=by
 rw [Ztl hk hf,if_neg h,Zl4,Zb6 hk]
def ZtB (ts:TS) (fr tk fs:Int) (ins acks:List Int) (stk sm tm ec:Int):TS×Bool :=
 if Zan ts=true∧ZhP fr tk fs ins acks stk sm tm ec=true∧acks.length=ts.length then
  (if (Zka (ts.getD fr.toNat default) fs ins).2=true then (ts.set fr.toNat (Zka (ts.getD fr.toNat default) fs ins).1,true) else (ts,false)) else (ts,false)
theorem Zsy {fr tk fs stk sm tm ec:Int} {ins acks:List Int} (h:ZhP fr tk fs ins acks stk sm tm ec=true):1≤acks.length∧acks.length≤4∧0≤fr∧fr≤acks.length - 1∧ins.length≤40∧Zbl ins=true∧0≤fs∧fs≤400 - ins.length:=by
 unfold ZhP at h
 simp only [Bool.and_eq_true,decide_eq_true_eq,Zae] at h
 exact ⟨by omega,by omega,by omega,by omega,by omega,h.1.1.1.1.1.1.2,by omega,by omega⟩
structure PkV where
 fr:Int
 tk:Int
 fs:Int
 ins:List Int
 acks:List Int
 stk:Int
 sm:Int
 tm:Int
 ec:Int
def Zsk (p:Pr) (x:PkV):TS×Bool:=ZtB p.tracks x.fr x.tk x.fs x.ins x.acks x.stk x.sm x.tm x.ec
noncomputable def Zsj (p:Pr) (x:PkV):Option Pr:=if Zb9 p=true∧x.fr ≠ p.me∧(Zsk p x).2=true then (Zqk { p with tracks:=(Zsk p x).1 }).map confirmV else none
theorem Ztm {t:Int}:∀ {f:Nat} {p q:Pr},Zc0 p→Zqm f t p=some q→Zc0 q
 | 0,p,q,h,ha=>by cases ha;exact h
 | f + 1,p,q,h,ha=>by
  unfold Zqm at ha
  split at ha
  ·cases hd:ZpB p with
   | none=>rw [hd] at ha;cases ha
   | some r =>
    rw [hd] at ha
    exact Ztm (ZqX h hd) ha
  ·cases ha;exact h
theorem Zs9 {p q:Pr} (h:Zc0 p) (hr:Zqk p=some q):Zc0 q:=by
 unfold Zqk at hr
 split at hr
 ·split at hr
  ·cases hr;exact h
  ·cases ho:Zcv p (ZdR p) with
   | none=>rw [ho] at hr;cases hr
   | some r =>
    rw [ho] at hr
    replace hr:(Zqm (p.now.tick - r.now.tick).toNat p.now.tick r).map (ZpG p)=some q:=hr
    cases hg:Zqm (p.now.tick - r.now.tick).toNat p.now.tick r with
    | none=>rw [hg] at hr;cases hr
    | some s =>
     rw [hg] at hr
     cases hr
     have:=Ztm (ZrF h ho) hg
     exact fun x hx=>this x hx
 ·cases hr
theorem Zso {t:List Int}:ZaH t=true↔t.length≤400∧∀ x ∈ t,0≤x∧x≤15:=by
 unfold ZaH Zbl
 rw [Bool.and_eq_true,decide_eq_true_eq,List.all_eq_true]
 exact ⟨fun h=>⟨h.1,fun x hx=>Zae.1 (h.2 x hx)⟩,fun h=>⟨h.1,fun x hx=>Zae.2 (h.2 x hx)⟩⟩
theorem Ztd {ts:TS} (h:1≤ts.length∧ts.length≤4) (ha:∀ k,k < ts.length→ZaH (ts.getD k default)=true):Zan ts=true:=by
 unfold Zan
 rw [Bool.and_eq_true,Zae,List.all_eq_true]
 refine ⟨by omega,fun t ht=>?_⟩
 obtain ⟨k,hk,rfl⟩:=List.mem_iff_getElem.1 ht
 have:=ha k hk
 rwa [Zb6 hk] at this
theorem ZsJ {ts:TS} {m k:Nat} {x:List Int} (hm:m < ts.length):(ts.set m x).getD k default=if m=k then x else ts.getD k default:=ZcG hm
theorem ZsX {ts:TS} (h:Zan ts=true) {m:Nat} (hm:m < ts.length) {x:List Int} (hx:ZaH x=true):Zan (ts.set m x)=true:=by
 refine Ztd (by rw [List.length_set];exact Zbi h) fun k hk=>?_
 rw [List.length_set] at hk
 rw [ZsJ hm]
 split
 ·exact hx
 ·exact ZfG h hk
theorem ZuF {ts:TS} {m:Nat} (hm:m < ts.length) (s:List Int):Ext ts (ts.set m (ts.getD m default++s)):=by
 refine ⟨List.length_set,fun k hk=>?_⟩
 rw [ZsJ hm]
 split
 ·rename_i e
  exact ⟨s,by rw [e]⟩
 ·exact ⟨[],by rw [List.append_nil]⟩
theorem ZuW {t ins:List Int} {f:Int} (h:Ztj t f ins=true):ZaH (Zsl t f.toNat ins)=true:=by
 unfold Ztj at h
 simp only [Bool.and_eq_true,decide_eq_true_eq] at h
 obtain ⟨⟨⟨⟨h1,h2⟩,h3⟩,h4⟩,h5⟩:=h
 obtain ⟨t1,t2⟩:=Zso.1 h1
 refine Zso.2 ⟨by rw [ZsF (by omega)];omega,fun x hx=>?_⟩
 unfold Zsl at hx
 rcases List.mem_append.1 hx with hx|hx
 ·exact t2 x hx
 ·unfold Zbl at h4
  exact Zae.1 (List.all_eq_true.1 h4 x (List.mem_of_mem_drop hx))
theorem Ztb {p:Pr} {x:PkV} (hp:Zic p) (h:(Zsk p x).2=true):Ext p.tracks (Zsk p x).1∧Zan (Zsk p x).1=true∧x.fr.toNat < p.tracks.length∧0≤x.fr∧(Zsk p x).1=p.tracks.set x.fr.toNat (Zsl (p.tracks.getD x.fr.toNat default) x.fs.toNat x.ins)∧Ztj (p.tracks.getD x.fr.toNat default) x.fs x.ins=true:=by
 unfold Zsk ZtB at h ⊢
 split at h
 ·rename_i hc
  rw [if_pos hc]
  have hpk:=Zsy hc.2.1
  have hlt:x.fr.toNat < p.tracks.length:=by have:=hc.2.2;omega
  split at h
  ·rename_i ha
   rw [if_pos ha]
   unfold Zka at ha ⊢
   split at ha
   ·rename_i hao
    rw [if_pos hao]
    exact ⟨ZuF hlt _,ZsX hp.tracks hlt (ZuW hao),hlt,hpk.2.2.1,rfl,hao⟩
   ·cases ha
  ·cases h
 ·cases h
theorem Ztz {p:Pr} {x:PkV} (h:¬ (Zb9 p=true∧x.fr ≠ p.me∧(Zsk p x).2=true)):Zsj p x=none:=if_neg h
theorem ZuK {p:Pr} {x:PkV} (h:Zb9 p=true∧x.fr ≠ p.me∧(Zsk p x).2=true):Zsj p x=(Zqk { p with tracks:=(Zsk p x).1 }).map confirmV:=if_pos h
theorem Zt3 {p q:Pr} (hp:Zeq p) (h:Zqk p=some q):Zeq q:=by
 have:=ZrR p hp
 rwa [h] at this
end Go.Proofs.YthfaongbpdnlnaaGreat
