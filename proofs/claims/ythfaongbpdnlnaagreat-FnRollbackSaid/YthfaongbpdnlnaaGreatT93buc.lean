/- What is proved: the worlds that a peer has saved, step by step, in plain terms.
   Conditions: none. -/
import Derived.Test.YthfaongbpdnlnaaGreatV31
namespace Go.Proofs.YthfaongbpdnlnaaGreat
set_option maxHeartbeats 4000000
set_option maxRecDepth 20000
set_option linter.unusedSimpArgs false
set_option linter.unusedVariables false
open Go.RowKit Ab
theorem ZrT {X Y:Prop} (h:Y) (r:Hld Y→X:=by intro h;(apply pdq 9;(focus exact pdp);(focus ((refine pt0_ 0 ?_<;>refine pt0_ 1 ?_<;>refine Za7 2 ?_<;>refine pt7_ 3 ?_<;>refine pt0_ 4 ?_<;>refine pt0_ 5 ?_<;>refine Za7 6 ?_<;>refine pt7_ 7 ?_<;>refine Zbh 8 ?_<;>(refine ZaI ?_;exact ZaJ)))));exact h.out):X:=r ⟨h⟩
theorem Zr3 (a b:List Int):AC Tryz.prog 136 [.t (ints 3 a),.t (ints 3 b)] (.t (.bool (decide (a=b)))):=by
 refine AC.go Tryz.func136 Tryz.ntmps136 fun B W hr=>?_
 obtain ⟨us,hus⟩:=hr
 have hla:=(Zga (ZaR hus (i:=0) rfl)).1
 have hlb:=(Zga (ZaR hus (i:=1) rfl)).1
 clear hus
 by_cases hl:a.length=b.length
 ·repeat' (first|refine pa ?_|(refine pb ?_ ?_<;>intro hg)|refine po ?_|(refine ZrT ?_)|fail)
  all_goals try (exfalso;omega)
  refine aW.loopF rfl (fun q:Nat=>[(13,.t (.int .i64 q))]) [(12,_),(1,_),(0,_)] (fun q=>[]) [] (fun q=>q≤a.length∧a.take q=b.take q) (fun q=>a.length - q) 0 ⟨Nat.zero_le _,rfl⟩ (by (exact plei)) ?_
  rintro k ⟨hk,he⟩
  refine pln ?_
  by_cases hkn:k < a.length
  ·by_cases hx:a.getD k default=b.getD k default
   ·repeat' (first|refine pa ?_|(refine pb ?_ ?_<;>intro hg)|refine po ?_|(refine ZrT ?_)|fail)
    exact ⟨k + 1,⟨hkn,by rw [List.take_succ_eq_append_getElem hkn,List.take_succ_eq_append_getElem (by omega),he,← Zb6 hkn,← Zb6 (show k < b.length by omega),hx]⟩,by omega,by (exact ple)⟩
   ·have hne:a ≠ b:=fun e=>hx (by rw [e])
    rw [decide_eq_false hne]
    repeat' (first|refine pa ?_|(refine pb ?_ ?_<;>intro hg)|refine po ?_|(refine ZrT ?_)|fail)
    exact pfr
  ·have hab:a=b:=by rwa [List.take_of_length_le (by omega),List.take_of_length_le (by omega)] at he
   rw [decide_eq_true hab]
   repeat' (first|refine pa ?_|(refine pb ?_ ?_<;>intro hg)|refine po ?_|(refine ZrT ?_)|fail)
   exact pfr
 ·have hne:a ≠ b:=fun e=>hl (by rw [e])
  rw [decide_eq_false hne]
  repeat' (first|refine pa ?_|(refine pb ?_ ?_<;>intro hg)|refine po ?_|(refine ZrT ?_)|fail)
  all_goals first
   | (refine pfin ?_;exact .inl rfl)
   | (exfalso;omega)
theorem Zex (xs:List Int) (hx:xs.length≤1048576):AC Tryz.prog 150 [.t (ints 3 xs)] (.fr true 3 (Zak xs)):=by
 refine AC.go Tryz.func150 Tryz.ntmps150 fun B W hr=>?_
 repeat' (first|refine pa ?_|(refine pb ?_ ?_<;>intro hg)|refine po ?_|fail)
 refine pfin ?_
 exact rfl
theorem ZjV (s:List UInt8) (hs:s.length≤1073741824):AC Tryz.prog 208 [.t (.str s)] (.t (.str (Za1 s))):=by
 have hv:=Zcb (s.length:Int)
 have hl:=ZaA (s.length:Int)
 have hmx:maxLen=9223372036854775807:=rfl
 refine AC.go Tryz.func208 Tryz.ntmps208 fun B W hr=>?_
 repeat' (first|refine pa ?_|(refine pb ?_ ?_<;>intro hg)|(refine pz9 ?_;(first|refine Zaa hv ?_))|refine po ?_|fail)
 exact pfr
theorem Zcq {xs:List Int} {k n i:Nat} (h:i < n):((xs.drop k).take n).getD i 0=xs.getD (k + i) 0:=by
 rw [List.getD_eq_getElem?_getD,List.getElem?_take,if_pos h,List.getElem?_drop,← List.getD_eq_getElem?_getD]
theorem ZnA {xs:List Int} {k:Nat}:Zcj ((xs.drop k).take 9) 0=Zcj xs k:=by
 unfold Zcj
 rw [Zcq (by omega),Zcq (by omega),Zcq (by omega),Zcq (by omega),Zcq (by omega),Zcq (by omega),Zcq (by omega),Zcq (by omega),Zcq (by omega)]
 rfl
theorem Zmm {w:Wd} (h:ZaW w=true):w.bodies.length≤24:=(Zax.1 h).m.2
theorem Zkd (r:List Int):(ZbI r).length=r.length / 9:=by simp [ZbI]
theorem Zlr (a b:List UInt8) (hb:b.length≤1048576):AC Tryz.prog 154 [.t (.str a),.t (.str b)] (.t (.str (ZbB a b))):=by
 refine AC.go Tryz.func154 Tryz.ntmps154 fun B W hr=>?_
 repeat' (first|refine pa ?_|(refine pb ?_ ?_<;>intro hg)|refine po ?_|fail)
 refine aW.loopF rfl (fun q:Nat=>[(6,.t (.int .i64 q))]) [(0,_),(4,_),(5,_)] (fun q=>[(8,1,.row true true 5 (Zao (ZbL a b q)))]) [] (fun q=>q≤b.length) (fun q=>b.length - q) 0 (Nat.zero_le _) (by (exact plei)) ?_
 intro k hk
 have hk:k≤b.length:=hk
 have hxl:=Zh7 (a:=a) hk
 have hxe:(Zao (ZbL a b k)).length=b.length:=Zc8.trans hxl
 refine pln ?_
 by_cases hkb:k < b.length
 ·by_cases hka:(k:Int) < a.length
  ·repeat' (first|refine pa ?_|(refine pb ?_ ?_<;>intro hg)|refine po ?_|(refine pdr [] 10 (by (apply pct 10 1023 0;(focus (intro hd2;(apply pct 10 127 3;(focus (intro hd1;(refine pt0_ 0 ?_<;>refine pt0_ 1 ?_<;>refine Za7 2 ?_<;>refine pt0_ 4 ?_<;>refine pt0_ 5 ?_<;>refine pt18_ 6 ?_<;>(refine pq1 3 ?_;(focus ((refine pop ?_;refine pk7 ?_)<;>(exact ptm hd1)))))));(case main=>(refine Zbh 7 ?_<;>refine Za7 8 ?_<;>(refine pq1 9 ?_;(focus ((refine pop ?_;refine pk8 ?_)<;>(exact ptm hd2)))))))));(case main=>((refine ZaI ?_;exact ZaJ))))) ?_)|fail)
   rw [Zpv hkb hka]
   exact ⟨k + 1,hkb,by omega,by (exact ple)⟩
  ·repeat' (first|refine pa ?_|(refine pb ?_ ?_<;>intro hg)|refine po ?_|fail)
   rw [Zej (.inr (by omega))]
   refine pfin ?_
   exact .inl (congrArg T.str (Zbf _))
 ·repeat' (first|refine pa ?_|(refine pb ?_ ?_<;>intro hg)|refine po ?_|fail)
  rw [Zej (.inl (by omega))]
  refine pfin ?_
  exact .inl (congrArg T.str (Zbf _))
theorem Zi0 (s:List UInt8) (hs:s.length≤1048576):AC Tryz.prog 153 [.t (.str s)] (.t (.str (Zau s))):=by
 have hmx:maxLen=9223372036854775807:=rfl
 refine AC.go Tryz.func153 Tryz.ntmps153 fun B W hr=>?_
 repeat' (first|refine pa ?_|(refine pb ?_ ?_<;>intro hg)|refine po ?_|fail)
 refine aW.nilrow (s:=3) (i:=30) true 5 rfl rfl ?_
 refine aW.loopF rfl (fun q:Nat×Nat×List (List T)=>[(4,.t (.int .i64 q.1)),(3,.hnd 30 q.2.1)]) [(0,_),(2,_)] (fun q=>[(30,q.2.1,.row true true 5 q.2.2)]) [] (fun q=>q.1≤s.length∧(∀ x ∈ q.2.2,Ab.isByte x=true)∧q.2.2.length≤13 * q.1∧q.2.2.map Ab.byteOf++Zau (s.drop q.1)=Zau s) (fun q=>s.length - q.1) (0,1,[]) ⟨Nat.zero_le _,ZhG,Nat.zero_le _,rfl⟩ (by (exact plei)) ?_
 rintro ⟨i,ep,els⟩ hI
 obtain ⟨hi,hb,hle,he⟩:i≤s.length∧(∀ x ∈ els,Ab.isByte x=true)∧els.length≤13 * i∧els.map Ab.byteOf++Zau (s.drop i)=Zau s:=hI
 refine pln ?_
 by_cases his:i < s.length
 ·have hp:=ZmV his
  have hmo:=ZkR his
  have hz1:=Zmo hi
  have hz2:=fun k=>@zEnd_at s i k
  have hz3:=@zEnd_end s i
  generalize hm:zEnd s i=m at hp hmo hz1 hz2 hz3
  have ho1:=Zl9 hz1.2
  have ho2:=fun k=>@oEnd_at s m k
  have ho3:=@oEnd_end s m
  generalize ho:oEnd s m=o at hp hmo ho1 ho2 ho3
  repeat' (first|(refine pth ?_)|((fail_if_success (with_reducible show aW _ _ _ (Code.seq (Code.seq (Code.region 5 _ _) _) _) _ _));(fail_if_success (with_reducible show aW _ _ _ (Code.seq (Code.region 5 _ _) _) _ _));(fail_if_success (with_reducible show aW _ _ _ (Code.region 5 _ _) _ _));(first|refine pc ?_|(refine pbc ?_ ?_<;>intro hg)))|(first|refine pl ?_|(refine pbl ?_ ?_<;>intro hg))|(first|refine po ?_)|fail)
  refine aW.joinF rfl (fun z:Nat=>[(4,.t (.int .i64 z))]) [(0,_),(2,_),(3,_),(5,_)] (fun z:Nat=>[]) [(30,_,_)] (fun z:Nat=>z=m) i (by (exact plei)) ?_ ?_
  ·refine aW.loopF rfl (fun q:Nat=>[(4,.t (.int .i64 q))]) [(0,_),(2,_),(3,_),(5,_)] (fun q=>[]) [(30,_,_)] (fun q=>i≤q∧q≤m) (fun q=>m - q) i ⟨Nat.le_refl _,hz1.1⟩ (by (exact plei)) ?_
   rintro k hI
   obtain ⟨hk1,hk2⟩:i≤k∧k≤m:=hI
   refine pln ?_
   by_cases hkm:k < m
   ·have h0:=hz2 k hk1 hkm
    repeat' (first|refine pa ?_|(refine pb ?_ ?_<;>intro hg)|refine po ?_|fail)
    exact ⟨k + 1,⟨by omega,by omega⟩,by omega,by (exact ple)⟩
   ·obtain rfl:k=m:=by omega
    by_cases hkl:k < s.length
    ·have h0:=hz3 hkl
     repeat' (first|refine pa ?_|(refine pb ?_ ?_<;>intro hg)|refine po ?_|fail)
     exact .inl ⟨rfl,k,rfl,by (exact ple)⟩
    ·repeat' (first|refine pa ?_|(refine pb ?_ ?_<;>intro hg)|refine po ?_|fail)
     exact .inl ⟨rfl,k,rfl,by (exact ple)⟩
  rintro z hz
  have hz:m=z:=Eq.symm hz
  subst hz
  refine pln ?_
  repeat' (first|(refine pth ?_)|((fail_if_success (with_reducible show aW _ _ _ (Code.seq (Code.seq (Code.region 8 _ _) _) _) _ _));(fail_if_success (with_reducible show aW _ _ _ (Code.seq (Code.region 8 _ _) _) _ _));(fail_if_success (with_reducible show aW _ _ _ (Code.region 8 _ _) _ _));(first|refine pc ?_|(refine pbc ?_ ?_<;>intro hg)))|(first|refine pl ?_|(refine pbl ?_ ?_<;>intro hg))|(first|refine po ?_)|fail)
  refine aW.joinF rfl (fun z:Nat=>[(4,.t (.int .i64 z))]) [(0,_),(2,_),(3,_),(5,_),(6,_)] (fun z:Nat=>[]) [(30,_,_)] (fun z:Nat=>z=o) m (by (exact plei)) ?_ ?_
  ·refine aW.loopF rfl (fun q:Nat=>[(4,.t (.int .i64 q))]) [(0,_),(2,_),(3,_),(5,_),(6,_)] (fun q=>[]) [(30,_,_)] (fun q=>m≤q∧q≤o) (fun q=>o - q) m ⟨Nat.le_refl _,ho1.1⟩ (by (exact plei)) ?_
   rintro k hI
   obtain ⟨hk1,hk2⟩:m≤k∧k≤o:=hI
   refine pln ?_
   by_cases hkm:k < o
   ·have h0:=ho2 k hk1 hkm
    repeat' (first|refine pa ?_|(refine pb ?_ ?_<;>intro hg)|refine po ?_|fail)
    exact ⟨k + 1,⟨by omega,by omega⟩,by omega,by (exact ple)⟩
   ·obtain rfl:k=o:=by omega
    by_cases hkl:k < s.length
    ·have h0:=ho3 hkl
     repeat' (first|refine pa ?_|(refine pb ?_ ?_<;>intro hg)|refine po ?_|fail)
     exact .inl ⟨rfl,k,rfl,by (exact ple)⟩
    ·repeat' (first|refine pa ?_|(refine pb ?_ ?_<;>intro hg)|refine po ?_|fail)
     exact .inl ⟨rfl,k,rfl,by (exact ple)⟩
  rintro z hz
  have hz:o=z:=Eq.symm hz
  subst hz
  refine pln ?_
  have hv:=Zcb ((m - i:Nat):Int)
  have hvl:=ZaA ((m - i:Nat):Int)
  obtain ⟨t,ht⟩:∃ t,t=List.take ((o:Int).toNat - (m:Int).toNat) (List.drop (m:Int).toNat s):=⟨_,rfl⟩
  have htl:t.length=o - m:=by rw [ht,List.length_take,List.length_drop];omega
  have htp:(s.take o).drop m=t:=by rw [ht,List.drop_take,Int.toNat_natCast,Int.toNat_natCast]
  have hw:=ZjV t (by omega)
  have hwl:(Za1 t).length≤6 + (o - m):=by
   have:=ZaA (t.length:Int)
   rw [Za1,List.length_append]
   omega
  have hmi:((m - i:Nat):Int)=(m:Int) - i:=by omega
  rw [htp] at hp
  rw [hmi] at hv hvl hp
  rw [ht] at hw hwl hp
  have hwl2:=hwl
  rw [Int.toNat_natCast,Int.toNat_natCast] at hwl2
  repeat' (first|refine pa ?_|(refine pb ?_ ?_<;>intro hg)|(refine pz9 ?_;(first|refine Zaa hv ?_|refine Zaa hw ?_))|refine po ?_|fail)
  refine ⟨(o,_,_),⟨hmo.2,Zfx (Zfx hb ZhH) ZhH,?_,?_⟩,?_,by (exact ple)⟩
  ·show (els++List.map _ _++List.map _ _).length≤13 * o
   rw [List.length_append,List.length_append,List.length_map,List.length_map]
   omega
  ·show (els++List.map _ _++List.map _ _).map Ab.byteOf++Zau (s.drop o)=Zau s
   rw [List.map_append,List.map_append,Zgw,Zgw,← he,hp]
   simp only [List.append_assoc]
  ·show s.length - o < s.length - i
   omega
 ·rw [List.drop_of_length_le (by omega),Zf6,List.append_nil] at he
  repeat' (first|refine pa ?_|(refine pb ?_ ?_<;>intro hg)|refine po ?_|fail)
  refine pfin ?_
  exact .inl (congrArg T.str he)
end Go.Proofs.YthfaongbpdnlnaaGreat
namespace Go.Proofs.YthfaongbpdnlnaaGreat.Ab
set_option maxHeartbeats 4000000
set_option maxRecDepth 20000
set_option linter.unusedSimpArgs false
set_option linter.unusedVariables false
open Go.RowKit
section
variable {P:Program} {B:Nat→Prop} {W:En} {st:St} {o:Oper} {KE:V→List (Nat×Nat×Ob)→Prop}
theorem OpS.eql_nil {x y:Operand} {t t':TypeId} {fl:Bool} {e e' es eb:Nat} {els:List (List T)} {z:Ty} (ho:o.op=.binOp .eql t x y t') (hz:Zac P t=some z) (hk:z.k=.slice e' es eb) (hx:st.ev x=.t (.lst fl e els)) (hy:st.ev y=.t .nil) (hne:els.flatten.length ≠ 0) (hK:KE (.t (.bool false)) []):OpS P B W o st KE :=
 OpS.pure_ hK fun a w pl F hs=>by
  refine ⟨.bool false,?_,Rd.bool⟩
  obtain ⟨A,c,us,h1,h2,h3,h4,h5,h6,h7,h8⟩:=hs.lst_at hx
  obtain ⟨ad,hA,_⟩:=h7 (fun h=>hne (by rw [h6,h];rfl))
  obtain ⟨hu,_,_⟩:=ZaM hz hk
  unfold execOp
  rw [ho]
  refine Zap ?_
  rw [h1,hs.nil_at hy,hA]
  have h9:(eqGuard .eql t x y (.slice (some ad) els.length c) (.slice none 0 0)).run P w=.ok () w:=rfl
  have h10:(binOp .eql t (.slice (some ad) els.length c) (.slice none 0 0)).run P w=.ok (.bool false) w:=by
   show ((Op.equal t (.slice (some ad) els.length c) (.slice none 0 0)) >>= fun b=>pure (Value.bool b):Sem Value).run P w=_
   rw [Sem.run_bind,run_equal_slice_nil w t e' (some ad) els.length c hu]
   rfl
  rw [Sem.run_bind,h9,Result.andThen_ok,h10]
end
end Go.Proofs.YthfaongbpdnlnaaGreat.Ab
namespace Go.Proofs.YthfaongbpdnlnaaGreat
set_option maxHeartbeats 4000000
set_option maxRecDepth 20000
set_option linter.unusedSimpArgs false
set_option linter.unusedVariables false
theorem Zjr {b:List UInt8} {xs:List Sv} {k:Nat} (hk:k≤xs.length) (h:Zba b (xs.take k)=none):Zba b xs=none:=by
 have:=ZfU h hk
 rwa [List.take_length] at this
end Go.Proofs.YthfaongbpdnlnaaGreat
