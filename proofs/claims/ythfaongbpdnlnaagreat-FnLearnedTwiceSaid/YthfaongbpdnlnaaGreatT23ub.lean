/- What is proved: contracts on texts against texts, program and reference alike.
   Conditions: texts that can be walked. -/
import Derived.Test.YthfaongbpdnlnaaGreatT90
namespace Go.Proofs.YthfaongbpdnlnaaGreat
set_option maxHeartbeats 4000000
set_option maxRecDepth 20000
set_option linter.unusedSimpArgs false
set_option linter.unusedVariables false
open Go.RowKit Ab
theorem Zhs (t p a n:Int) (hn:0≤n∧n≤1048576):AC Tryz.prog 135 [.agg [.t (.int .i64 t),.t (.int .i64 p),.t (.int .i64 a)],.t (.int .i64 n)] (.t (.bool (ZcX t p a n))):=by
 have h1:inR t 0 400=true∧(0≤t∧t≤400)∨inR t 0 400=false∧¬ (0≤t∧t≤400):=by
  by_cases h:0≤t∧t≤400
  ·exact .inl ⟨Zae.2 h,h⟩
  ·exact .inr ⟨Zb3 h,h⟩
 have h2:inR p 0 (n - 1)=true∧(0≤p∧p≤n - 1)∨inR p 0 (n - 1)=false∧¬ (0≤p∧p≤n - 1):=by
  by_cases h:0≤p∧p≤n - 1
  ·exact .inl ⟨Zae.2 h,h⟩
  ·exact .inr ⟨Zb3 h,h⟩
 rcases h1 with ⟨i1,j1⟩|⟨i1,j1⟩<;>rcases h2 with ⟨i2,j2⟩|⟨i2,j2⟩<;>by_cases hn0:0 < n
 all_goals try (exfalso;omega)
 all_goals (
  refine AC.go Tryz.func135 Tryz.ntmps135 fun B W hr=>?_)
 repeat' (first|refine pa ?_|(refine pb ?_ ?_<;>intro hg)|(refine Zab (n:=20) ?_;(first|refine Zaa ((Zah _ _ _)) ?_))|refine po ?_|fail)
 all_goals try (exfalso;omega)
 all_goals refine pfin ?_
 all_goals exact .inl (congrArg T.bool (by unfold ZcX;rw [Bool.eq_iff_iff];simp only [Zae,decide_eq_true_eq,Bool.false_eq_true,false_iff];omega))
theorem Zdg {s:List UInt8} {p n m:Int} (h:Zag s p=(n,m,false)):n=0∧m=0:=by
 unfold Zag at h
 split at h
 ·cases h;exact ⟨rfl,rfl⟩
 ·split at h
  ·cases h
  ·cases h;exact ⟨rfl,rfl⟩
theorem ZnD (f k:Nat) (bs:List UInt8) (c:UInt8) (r:List UInt8) (hk:bs.length=k) (hb:∀ b ∈ bs,128≤b.toNat) (hc:c.toNat < 128) :
  decI (f + 1) k (valB bs) (c :: r)=if Zaf (valB (bs++[c]):Nat)=bs++[c] then some (valB (bs++[c]),k + 1) else none:=by
 have h1:=ZhD hb hc
 have h2:=ZfI bs c
 rw [hk] at h1 h2
 unfold decI
 rw [if_neg (by omega),← h2]
 by_cases h:(c.toNat=0∧0 < k)∨1099511627775 < valB (bs++[c])
 ·rw [if_pos h,if_neg fun h3=>h1.1 h3 h]
 ·rw [if_neg h,if_pos (h1.2 h)]
theorem Zpq:∀ bs:List UInt8,valB bs < 128 ^ bs.length
 | []=>by simp [valB]
 | b :: r=>by
  have:=Zpq r
  have h1:b.toNat % 128 < 128:=Nat.mod_lt _ (by decide)
  rw [valB,List.length_cons,Nat.pow_succ]
  omega
theorem Zps {l:Lv} {s:List UInt8} {xs:List Int} (hu:Za6 s 0=some (xs,(s.length:Int))) (h:ZfL xs):Zbp (Zb7 l xs)=s↔ZaW (Zb7 l xs)=true:=by
 obtain ⟨_,g1,_,_,g⟩:=Zcf hu
 constructor
 ·intro he
  by_cases hw:ZaW (Zb7 l xs)=true
  ·exact hw
  ·rw [Zbp,if_neg hw] at he
   rw [← he] at g1
   simp at g1
 ·intro hw
  rw [Zbp,if_pos hw,Zlj h,g]
  simp
theorem ZiH (a b:Nat) (ha:a < 9223372036854775808) (hb:b < 9223372036854775808):bits .or .i64 (a:Int) (b:Int)=((a ||| b:Nat):Int):=by
 have hx:a ||| b < 2 ^ 63:=Nat.or_lt_two_pow (by omega) (by omega)
 show IntKind.i64.wrap ((BitVec.ofInt 64 (a:Int) ||| BitVec.ofInt 64 (b:Int)).toNat:Int)=_
 rw [BitVec.toNat_or,Zf3 a ha,Zf3 b hb,IntKind.wrap_i64]
 omega
theorem and_127 {x:Int} (h0:0≤x) (h1:x≤4398046511104):bits .and .i64 x 127=x % 128:=by
 obtain ⟨n,rfl⟩:=Int.eq_ofNat_of_zero_le h0
 have:=Zd6 n 127 (by omega) (by omega)
 rw [show ((127:Nat):Int)=127 from rfl] at this
 rw [this,show (127:Nat)=2 ^ 7 - 1 from rfl,Nat.and_two_pow_sub_one_eq_mod]
 omega
theorem ZmT (a b k:Nat) (h:a < 2 ^ k):a ||| b * 2 ^ k=a + b * 2 ^ k:=by
 have h1:=Nat.shiftLeft_add_eq_or_of_lt h b
 rw [Nat.shiftLeft_eq] at h1
 rw [Nat.or_comm,← h1,Nat.add_comm]
theorem or_128 {x:Int} (h0:0≤x) (h1:x < 128):bits .or .i64 x 128=x + 128:=by
 obtain ⟨n,rfl⟩:=Int.eq_ofNat_of_zero_le h0
 have:=ZiH n 128 (by omega) (by omega)
 rw [show ((128:Nat):Int)=128 from rfl] at this
 have h2:=ZmT n 1 7 (by omega)
 rw [this]
 simp only [Nat.reducePow,Nat.one_mul] at h2
 rw [h2]
 omega
theorem ZlY {n:Int} (h:0≤n) (h1:n≤1099511627775):Ab.byteOf [T.int .u8 (IntKind.u8.wrap (bits .or .i64 (bits .and .i64 n 127) 128))]=UInt8.ofNat (n.toNat % 128 + 128):=by
 rw [Zhx,and_127 h (by omega),or_128 (by omega) (by omega)]
 congr 1
 omega
theorem shr_7 (n:Int):n.fdiv (2 ^ (min (Int.toNat 7) IntKind.i64.bits))=n / 128:=by
 show n.fdiv 128=n / 128
 exact Int.fdiv_eq_ediv_of_nonneg n (by decide)
theorem ZbO (n:Int):AC Tryz.prog 199 [.t (.int .i64 n)] (.t (.str (Zaf n))):=by
 have hr0:=Zah n 0 1099511627775
 by_cases h:0≤n∧n≤1099511627775
 ·have hl:(encN n.toNat).length≤6:=by have:=ZaA n;rwa [Zaf,if_pos h] at this
  rw [Zae.2 h] at hr0
  rw [Zaf,if_pos h]
  obtain ⟨h0,h1⟩:=h
  refine AC.go Tryz.func199 Tryz.ntmps199 fun B W hr=>?_
  repeat' (first|refine pa ?_|(refine pb ?_ ?_<;>intro hg)|(refine Zab (n:=20) ?_;(first|refine Zaa hr0 ?_))|refine po ?_|fail)
  refine aW.loopF rfl (fun q:Int×Nat×List (List T)=>[(3,.hnd 7 q.2.1),(0,.t (.int .i64 q.1))]) [] (fun q=>[(7,q.2.1,.row true true 5 q.2.2)]) [] (fun q=>0≤q.1∧q.1≤1099511627775∧(∀ x ∈ q.2.2,Ab.isByte x=true)∧q.2.2.map Ab.byteOf++encN q.1.toNat=encN n.toNat) (fun q=>q.1.toNat) (n,1,[]) ⟨h0,h1,ZhG,rfl⟩ (by (exact plei)) ?_
  rintro ⟨v,ep,els⟩ hI
  obtain ⟨hv0,hv1,hb,he⟩:0≤v∧v≤1099511627775∧(∀ x ∈ els,Ab.isByte x=true)∧els.map Ab.byteOf++encN v.toNat=encN n.toNat:=hI
  have hle:=congrArg List.length he
  rw [List.length_append,List.length_map] at hle
  have hp:=Zg2 v.toNat
  refine pln ?_
  by_cases hv:128≤v
  ·repeat' (first|refine pa ?_|(refine pb ?_ ?_<;>intro hg)|refine po ?_|fail)
   have e7:=shr_7 v
   refine ⟨(v.fdiv (2 ^ (min (Int.toNat 7) IntKind.i64.bits)),_,_),⟨?_,?_,Zfx hb (Zjz rfl),?_⟩,?_,by (exact ple)⟩
   ·show 0≤v.fdiv _;rw [e7];omega
   ·show v.fdiv _≤_;rw [e7];omega
   ·show List.map Ab.byteOf (els++[_])++encN (v.fdiv _).toNat=_
    rw [e7,List.map_append,List.append_assoc,← he,Zkn hv]
    have:=ZlY hv0 hv1
    simp only [List.map_cons,List.map_nil,List.singleton_append]
    exact congrArg (fun z=>els.map Ab.byteOf++z :: encN (v / 128).toNat) this
   ·show (v.fdiv _).toNat < v.toNat;rw [e7];omega
  ·repeat' (first|refine pa ?_|(refine pb ?_ ?_<;>intro hg)|refine po ?_|fail)
   refine pfin ?_
   refine .inl (congrArg T.str ?_)
   rw [List.map_append,← he,Zd3 (n:=v.toNat) (by omega)]
   simp only [List.map_cons,List.map_nil,Zkg ⟨hv0,Int.not_le.1 hv⟩]
 ·have hf:inR n 0 1099511627775=false:=by rw [Bool.eq_false_iff];exact fun g=>h (Zae.1 g)
  rw [hf] at hr0
  rw [Zaf,if_neg h]
  refine AC.go Tryz.func199 Tryz.ntmps199 fun B W hr=>?_
  repeat' (first|refine pa ?_|(refine pb ?_ ?_<;>intro hg)|(refine Zab (n:=20) ?_;(first|refine Zaa hr0 ?_))|refine po ?_|fail)
  all_goals refine pfin ?_
  all_goals exact .inl rfl
theorem T18d2 {X Y:Prop} (h:Y) (r:Hld Y→X:=by intro h;(apply pdq 10;(focus exact pdp);(focus ((apply pct 10 511 1;(focus (intro hd1;(refine pt0_ 0 ?_<;>refine pt0_ 2 ?_<;>refine pt0_ 3 ?_<;>refine pt0_ 4 ?_<;>refine pt0_ 5 ?_<;>refine Zbh 6 ?_<;>refine Zbh 7 ?_<;>refine ZkV 8 ?_<;>(refine pq1 1 ?_;(focus ((refine pop ?_;(refine Zab (n:=20) ?_;(first|refine Zaa hev ?_)))<;>(exact ptm hd1)))))));(case main=>(refine Zbh 9 ?_<;>(refine ZaI ?_;exact ZaJ)))))));exact h.out):X:=r ⟨h⟩
theorem orB_eq {n k:Nat} {c:UInt8} (hk:k < 6) (hn:n < 128 ^ k):bits .or .i64 (n:Int) ((c.toNat % 128 * 128 ^ k:Nat):Int)=((n + c.toNat % 128 * 128 ^ k:Nat):Int):=by
 have hp:=ZjF (k:=k) (by omega)
 have hc:c.toNat % 128 < 128:=Nat.mod_lt _ (by decide)
 have hm:c.toNat % 128 * 128 ^ k≤128 * 4398046511104:=Nat.mul_le_mul (by omega) hp
 rw [ZiH _ _ (by omega) (by omega)]
 have h1:=ZmT n (c.toNat % 128) (7 * k) (by rw [ZoS];exact hn)
 rw [ZoS] at h1
 rw [h1]
theorem Zph {s:List UInt8} {p k:Nat} (h:p + k < s.length):(s.drop p).take (k + 1)=(s.drop p).take k++[s.getD (p + k) 0]:=by
 rw [List.take_add_one,List.getElem?_drop]
 simp [h]
theorem ZbN (s:List UInt8) (p:Int):AC Tryz.prog 225 [.t (.str s),.t (.int .i64 p)] (.tup [.t (.int .i64 (Zag s p).1),.t (.int .i64 (Zag s p).2.1),.t (.bool (Zag s p).2.2)]):=by
 by_cases h0:0≤p
 ·obtain ⟨at_,rfl⟩:=Int.eq_ofNat_of_zero_le h0
  refine AC.go Tryz.func225 Tryz.ntmps225 fun B W hr=>?_
  obtain ⟨us,hus⟩:=hr
  have hl:=ZeK (ZaR hus (i:=0) rfl)
  have hl2:=ZcJ (ZaR hus (i:=1) rfl)
  clear hus
  repeat' (first|refine pa ?_|(refine pb ?_ ?_<;>intro hg)|refine po ?_|fail)
  refine aW.loopF rfl (fun q:Nat×Int=>[(7,.t (.int .i64 q.2)),(8,.t (.int .i64 q.1))]) [(1,_),(0,_)] (fun q=>[]) [] (fun q=>q.1≤6∧q.1≤s.length - at_∧q.2=valB ((s.drop at_).take q.1)∧(∀ b ∈ (s.drop at_).take q.1,128≤b.toNat)∧decI (6 - q.1) q.1 (valB ((s.drop at_).take q.1)) (s.drop (at_ + q.1))=decI 6 0 0 (s.drop at_)) (fun q=>6 - q.1) (0,0) ⟨by decide,Nat.zero_le _,rfl,by simp,rfl⟩ (by (exact plei)) ?_
  rintro ⟨k,v⟩ hI
  obtain ⟨hk,hks,hv,hbs,hd⟩:k≤6∧k≤s.length - at_∧v=valB ((s.drop at_).take k)∧(∀ b ∈ (s.drop at_).take k,128≤b.toNat)∧decI (6 - k) k (valB ((s.drop at_).take k)) (s.drop (at_ + k))=decI 6 0 0 (s.drop at_):=hI
  subst hv
  refine pln ?_
  have hn:=Zpq ((s.drop at_).take k)
  rw [show ((s.drop at_).take k).length=k by rw [List.length_take,List.length_drop];omega] at hn
  by_cases hk6:k < 6
  ·by_cases hk7:at_ + k < s.length
   ·have hti:((at_:Int) + (k:Int)).toNat=at_ + k:=by omega
    have htm:=Zph hk7
    rw [Zmx (s:=s) (p:=at_ + k) hk7,← hti,show 6 - k=(5 - k) + 1 by omega] at hd
    rw [← hti] at htm
    have hsh:=shB_eq (c:=s.getD ((at_:Int) + (k:Int)).toNat 0) hk6
    unfold shB at hsh
    have hc:=(s.getD ((at_:Int) + (k:Int)).toNat 0).toNat_lt
    have hor:=orB_eq (n:=valB ((s.drop at_).take k)) (c:=s.getD ((at_:Int) + (k:Int)).toNat 0) hk6 hn
    rw [← hsh] at hor
    have hva:=ZfI ((s.drop at_).take k) (s.getD ((at_:Int) + (k:Int)).toNat 0)
    rw [show ((s.drop at_).take k).length=k by rw [List.length_take,List.length_drop];omega,← htm] at hva
    have hb:=Zmp (c:=(s.getD ((at_:Int) + (k:Int)).toNat 0).toNat) hk6 hn
    have hp6:=ZjF (k:=k + 1) (by omega)
    rw [← hva] at hb hor
    by_cases hc1:128≤(s.getD ((at_:Int) + (k:Int)).toNat 0).toNat
    ·rw [Zkk _ _ _ _ _ hc1,← hva] at hd
     repeat' (first|refine pa ?_|(refine pb ?_ ?_<;>intro hg)|refine po ?_|fail)
     refine ⟨(k + 1,_),⟨?_,?_,?_,?_,?_⟩,?_,by (exact ple)⟩
     ·show k + 1≤6;omega
     ·show k + 1≤s.length - at_;omega
     ·exact hor
     ·show ∀ b ∈ (s.drop at_).take (k + 1),128≤b.toNat
      rw [htm]
      intro b hb
      rcases List.mem_append.1 hb with hb|hb
      ·exact hbs b hb
      ·rw [List.mem_singleton.1 hb];exact hc1
     ·show decI (6 - (k + 1)) (k + 1) _ (s.drop (at_ + (k + 1)))=_
      rw [← hd,show 6 - (k + 1)=5 - k by omega,hti,Nat.add_assoc]
     ·show 6 - (k + 1) < 6 - k;omega
    ·have hcn:=ZnD (5 - k) k ((s.drop at_).take k) (s.getD ((at_:Int) + (k:Int)).toNat 0) (s.drop (at_ + k + 1)) (by rw [List.length_take,List.length_drop];omega) hbs (by omega)
     rw [hti] at hd hcn
     rw [hcn] at hd
     rw [← hti,← htm,← hor] at hd
     have hev:=ZbO (bits .or .i64 ((valB ((s.drop at_).take k):Nat):Int) (IntKind.i64.wrap (IntKind.i64.wrap (IntKind.u8.wrap (((BitVec.ofInt IntKind.u8.bits (((s.getD ((at_:Int) + (k:Int)).toNat 0).toNat:Nat):Int) &&& BitVec.ofInt IntKind.u8.bits 127).toNat:Nat):Int)) * 2 ^ (min (Int.toNat (7 * (k:Int))) IntKind.i64.bits))))
     have htk:((at_:Int) + (k:Int) + 1).toNat - (at_:Int).toNat=k + 1:=by omega
     by_cases hc2:Zaf (bits .or .i64 ((valB ((s.drop at_).take k):Nat):Int) (IntKind.i64.wrap (IntKind.i64.wrap (IntKind.u8.wrap (((BitVec.ofInt IntKind.u8.bits (((s.getD ((at_:Int) + (k:Int)).toNat 0).toNat:Nat):Int) &&& BitVec.ofInt IntKind.u8.bits 127).toNat:Nat):Int)) * 2 ^ (min (Int.toNat (7 * (k:Int))) IntKind.i64.bits))))=(s.drop at_).take (k + 1)
     ·rw [if_pos hc2] at hd
      rw [ZdO hd.symm]
      repeat' (first|refine pa ?_|(refine pb ?_ ?_<;>intro hg)|(refine Zab (n:=20) ?_;(first|refine Zaa hev ?_))|refine po ?_|(refine T18d2 ?_)|fail)
      all_goals first
       | (refine pfin ?_;exact ⟨.inl (congrArg (T.int .i64) hor),.inl rfl,.inl rfl,trivial⟩)
       | (exfalso;rw [htk,Int.toNat_natCast] at hg;first|exact absurd hc2 (by simpa only [Bool.not_eq_true',decide_eq_false_iff_not] using hg)|exact hc2 (by simpa only [Bool.not_eq_false',decide_eq_true_eq] using hg))
     ·rw [if_neg hc2] at hd
      rw [Zbb hd.symm]
      repeat' (first|refine pa ?_|(refine pb ?_ ?_<;>intro hg)|(refine Zab (n:=20) ?_;(first|refine Zaa hev ?_))|refine po ?_|(refine T18d2 ?_)|fail)
      all_goals first
       | (refine pfin ?_;exact ⟨.inl rfl,.inl rfl,.inl rfl,trivial⟩)
       | (exfalso;rw [htk,Int.toNat_natCast] at hg;first|exact absurd hc2 (by simpa only [Bool.not_eq_true',decide_eq_false_iff_not] using hg)|exact hc2 (by simpa only [Bool.not_eq_false',decide_eq_true_eq] using hg))
   ·rw [List.drop_of_length_le (i:=at_ + k) (by omega),Zjv] at hd
    rw [Zbb hd.symm]
    repeat' (first|refine pa ?_|(refine pb ?_ ?_<;>intro hg)|refine po ?_|fail)
    all_goals refine pfin ?_
    all_goals exact ⟨.inl rfl,.inl rfl,.inl rfl,trivial⟩
  ·rw [show 6 - k=0 by omega,decI] at hd
   rw [Zbb hd.symm]
   repeat' (first|refine pa ?_|(refine pb ?_ ?_<;>intro hg)|refine po ?_|fail)
   all_goals refine pfin ?_
   all_goals exact ⟨.inl rfl,.inl rfl,.inl rfl,trivial⟩
 ·rw [Zel fun h=>h0 h.1]
  refine AC.go Tryz.func225 Tryz.ntmps225 fun B W hr=>?_
  repeat' (first|refine pa ?_|(refine pb ?_ ?_<;>intro hg)|refine po ?_|fail)
  all_goals refine pfin ?_
  all_goals exact ⟨.inl rfl,.inl rfl,.inl rfl,trivial⟩
theorem Zez (n:Int):AC Tryz.prog 237 [.t (.int .i64 n)] (.t (.int .i64 (signless n))):=by
 have hin:=Zah n (-549755813888) 549755813887
 have hir:inR n (-549755813888) 549755813887=decide (-549755813888≤n∧n≤549755813887):=by rw [Bool.eq_iff_iff,Zae,decide_eq_true_eq]
 rw [hir] at hin
 by_cases h1:n < -549755813888∨549755813887 < n
 ·rw [show signless n=-1 from if_pos h1]
  rw [decide_eq_false (by omega)] at hin
  refine AC.go Tryz.func237 Tryz.ntmps237 fun B W hr=>?_
  repeat' (first|refine pa ?_|(refine pb ?_ ?_<;>intro hg)|(refine Zab (n:=20) ?_;(first|refine Zaa hin ?_))|refine po ?_|fail)
  all_goals first
   | (refine pfin ?_;exact .inl rfl)
   | (exfalso;omega)
 ·rw [decide_eq_true (by omega)] at hin
  by_cases h2:0≤n
  ·rw [show signless n=2 * n by rw [signless,if_neg h1,if_pos h2]]
   refine AC.go Tryz.func237 Tryz.ntmps237 fun B W hr=>?_
   repeat' (first|refine pa ?_|(refine pb ?_ ?_<;>intro hg)|(refine Zab (n:=20) ?_;(first|refine Zaa hin ?_))|refine po ?_|fail)
   all_goals refine pfin ?_
   all_goals exact .inl rfl
  ·rw [show signless n=-2 * n - 1 by rw [signless,if_neg h1,if_neg h2]]
   refine AC.go Tryz.func237 Tryz.ntmps237 fun B W hr=>?_
   repeat' (first|refine pa ?_|(refine pb ?_ ?_<;>intro hg)|(refine Zab (n:=20) ?_;(first|refine Zaa hin ?_))|refine po ?_|fail)
   all_goals refine pfin ?_
   all_goals exact .inl rfl
theorem Zj6 (s:List UInt8) (hs:s.length≤1073741824):AC Tryz.prog 238 [.t (.str s)] (.t (.str (Za1 s))):=by
 have hv:=ZbO (s.length:Int)
 have hl:=ZaA (s.length:Int)
 have hmx:maxLen=9223372036854775807:=rfl
 refine AC.go Tryz.func238 Tryz.ntmps238 fun B W hr=>?_
 repeat' (first|refine pa ?_|(refine pb ?_ ?_<;>intro hg)|(refine Zab (n:=20) ?_;(first|refine Zaa hv ?_))|refine po ?_|fail)
 exact pfr
theorem Zry (s:List UInt8):AC Tryz.prog 197 [.t (.str s)] (.t (.int .i64 (Zms s))):=by
 refine AC.go Tryz.func197 Tryz.ntmps197 fun B W hr=>?_
 obtain ⟨us,hus⟩:=hr
 have hl:=ZeK (ZaR hus (i:=0) rfl)
 clear hus
 repeat' (first|refine pa ?_|(refine pb ?_ ?_<;>intro hg)|refine po ?_|fail)
 refine aW.loopF rfl (fun q:Nat×Int×Int=>[(5,.t (.int .i64 q.1)),(4,.t (.int .i64 q.2.2)),(3,.t (.int .i64 q.2.1))]) [(0,_)] (fun q=>[]) [] (fun q=>q.1≤s.length∧(0≤q.2.1∧q.2.1 < 65521)∧(0≤q.2.2∧q.2.2 < 65521)∧csGo (s.drop q.1) q.1 q.2.1 q.2.2=csGo s 0 0 0) (fun q=>s.length - q.1) (0,0,0) ⟨Nat.zero_le _,by decide,by decide,rfl⟩ (by (exact plei)) ?_
 rintro ⟨k,a,b⟩ hI
 obtain ⟨hk,ha,hb,hc⟩:k≤s.length∧(0≤a∧a < 65521)∧(0≤b∧b < 65521)∧csGo (s.drop k) k a b=csGo s 0 0 0:=hI
 refine pln ?_
 by_cases hkl:k < s.length
 ·have hcl:=(s.getD (k:Int).toNat 0).toNat_lt
  have hw:IntKind.i64.wrap (((s.getD (k:Int).toNat 0).toNat:Nat):Int)=(s.getD (k:Int).toNat 0).toNat:=wrap_i64 (by omega)
  rw [Zr4 hkl] at hc
  have ht1:(a + IntKind.i64.wrap (((s.getD (k:Int).toNat 0).toNat:Nat):Int)).tmod 65521=(a + (s.getD (k:Int).toNat 0).toNat) % 65521:=by rw [hw];exact Int.tmod_eq_emod_of_nonneg (by omega)
  have ht2:((k:Int) + 1).tmod 65521=((k:Int) + 1) % 65521:=Int.tmod_eq_emod_of_nonneg (by omega)
  have hm0:0≤((k:Int) + 1) % 65521∧((k:Int) + 1) % 65521 < 65521:=by omega
  have hmul:0≤((s.getD (k:Int).toNat 0).toNat:Int) * (((k:Int) + 1) % 65521)∧((s.getD (k:Int).toNat 0).toNat:Int) * (((k:Int) + 1) % 65521)≤256 * 65521:=by
   refine ⟨Int.mul_nonneg (by omega) hm0.1,?_⟩
   exact Int.mul_le_mul (by omega) (by omega) hm0.1 (by omega)
  have hmul2:IntKind.i64.wrap (((s.getD (k:Int).toNat 0).toNat:Nat):Int) * ((k:Int) + 1).tmod 65521=((s.getD (k:Int).toNat 0).toNat:Int) * (((k:Int) + 1) % 65521):=by rw [hw,ht2]
  have ht3:(b + IntKind.i64.wrap (((s.getD (k:Int).toNat 0).toNat:Nat):Int) * ((k:Int) + 1).tmod 65521).tmod 65521=(b + (s.getD (k:Int).toNat 0).toNat * (((k:Int) + 1) % 65521)) % 65521:=by rw [hmul2];exact Int.tmod_eq_emod_of_nonneg (by omega)
  repeat' (first|refine pa ?_|(refine pb ?_ ?_<;>intro hg)|refine po ?_|fail)
  refine ⟨(k + 1,_,_),⟨?_,?_,?_,?_⟩,?_,by (exact ple)⟩
  ·show k + 1≤s.length;omega
  ·show 0≤Int.tmod _ _∧Int.tmod _ _ < 65521;rw [ht1];omega
  ·show 0≤Int.tmod _ _∧Int.tmod _ _ < 65521;rw [ht3];omega
  ·show csGo (s.drop (k + 1)) ((k + 1:Nat):Int) (Int.tmod _ _) (Int.tmod _ _)=_;rw [ht1,ht3];exact hc
  ·show s.length - (k + 1) < s.length - k;omega
 ·rw [Zrz hkl] at hc
  repeat' (first|refine pa ?_|(refine pb ?_ ?_<;>intro hg)|refine po ?_|fail)
  refine pfin ?_
  exact .inl (congrArg (T.int .i64) (by rw [Zms,← hc]))
theorem Zj5 (xs:List Int) (hx:xs.length≤1048576):AC Tryz.prog 198 [.t (ints 3 xs)] (.t (.str (Zb2 xs))):=by
 have hv:=ZbO (xs.length:Int)
 have hl:=ZaA (xs.length:Int)
 have hmx:maxLen=9223372036854775807:=rfl
 refine AC.go Tryz.func198 Tryz.ntmps198 fun B W hr=>?_
 repeat' (first|refine pa ?_|(refine pb ?_ ?_<;>intro hg)|(refine Zab (n:=20) ?_;(first|refine Zaa hv ?_))|refine po ?_|fail)
 refine aW.loopF rfl (fun q:Nat×List UInt8=>[(4,.t (.int .i64 q.1)),(3,.t (.str q.2))]) [(0,_)] (fun q=>[]) [] (fun q=>q.1≤xs.length∧q.2.length≤6 + 6 * q.1∧(ZcT (xs.drop q.1)).map (q.2++·)=(ZcT xs).map (Zaf xs.length++·)) (fun q=>xs.length - q.1) (0,Zaf xs.length) ⟨Nat.zero_le _,by show (Zaf _).length≤6 + 6 * 0;omega,rfl⟩ (by (exact plei)) ?_
 rintro ⟨k,out⟩ hI
 obtain ⟨hk,hle,he⟩:k≤xs.length∧out.length≤6 + 6 * k∧(ZcT (xs.drop k)).map (out++·)=(ZcT xs).map (Zaf xs.length++·):=hI
 refine pln ?_
 by_cases hkl:k < xs.length
 ·rw [ZmU hkl] at he
  by_cases hs:signless (xs.getD k default) < 0
  ·rw [if_pos hs] at he
   rw [Zf4 he.symm]
   repeat' (first|refine pa ?_|(refine pb ?_ ?_<;>intro hg)|(refine Zab (n:=20) ?_;(first|refine Zaa (Zez _) ?_))|refine po ?_|fail)
   exact pfr
  ·rw [if_neg hs,ZkO] at he
   have hel:=ZaA (signless (xs.getD k default))
   repeat' (first|refine pa ?_|(refine pb ?_ ?_<;>intro hg)|(refine Zab (n:=20) ?_;(first|refine Zaa (Zez _) ?_|refine Zaa (ZbO _) ?_))|refine po ?_|fail)
   refine ⟨(k + 1,_),⟨?_,?_,?_⟩,?_,by (exact ple)⟩
   ·show k + 1≤xs.length;omega
   ·show (out++_).length≤6 + 6 * (k + 1);rw [List.length_append];omega
   ·exact he
   ·show xs.length - (k + 1) < xs.length - k;omega
 ·rw [ZkM hkl] at he
  rw [Zf5 he.symm]
  repeat' (first|refine pa ?_|(refine pb ?_ ?_<;>intro hg)|(refine Zab (n:=20) ?_;(first|refine Zaa (Zez _) ?_))|refine po ?_|fail)
  refine pfin ?_
  exact .inl (congrArg T.str (by simp))
theorem Ziq (s:List UInt8) (p:Int):AC Tryz.prog 247 [.t (.str s),.t (.int .i64 p)] (.tup [.t (.str (unpX s p).1),.t (.int .i64 (unpX s p).2.1),.t (.bool (unpX s p).2.2)]):=by
 have hdv:=ZbN s p
 refine AC.go Tryz.func247 Tryz.ntmps247 fun B W hr=>?_
 obtain ⟨us,hus⟩:=hr
 have hl:=ZeK (ZaR hus (i:=0) rfl)
 clear hus
 rcases hd:Zag s p with ⟨n,m,ok⟩
 rw [hd] at hdv
 dsimp only at hdv
 cases ok with
 | false =>
  rw [Znh hd]
  repeat' (first|refine pa ?_|(refine pb ?_ ?_<;>intro hg)|(refine Zab (n:=20) ?_;(first|refine Zaa hdv ?_))|refine po ?_|fail)
  all_goals refine pfin ?_
  all_goals exact ⟨.inl rfl,.inl rfl,.inl rfl,trivial⟩
 | true =>
  obtain ⟨g1,g2,g3,g4,g5,g6,_⟩:=Zav hd
  by_cases hlong:(s.length:Int) - p - m < n
  ·rw [Zle hd hlong]
   repeat' (first|refine pa ?_|(refine pb ?_ ?_<;>intro hg)|(refine Zab (n:=20) ?_;(first|refine Zaa hdv ?_))|refine po ?_|fail)
   all_goals refine pfin ?_
   all_goals exact ⟨.inl rfl,.inl rfl,.inl rfl,trivial⟩
  ·rw [Zpm hd hlong]
   repeat' (first|refine pa ?_|(refine pb ?_ ?_<;>intro hg)|(refine Zab (n:=20) ?_;(first|refine Zaa hdv ?_))|refine po ?_|fail)
   all_goals refine pfin ?_
   all_goals exact ⟨.inl (congrArg T.str (congrArg (fun k=>List.take k (s.drop (p + m).toNat)) (by omega))),.inl rfl,.inl rfl,trivial⟩
theorem Zgu (n:Int):AC Tryz.prog 227 [.t (.int .i64 n)] (.t (.int .i64 (signed n))):=by
 have hin:=Zah n 0 1099511627775
 have hir:inR n 0 1099511627775=decide (0≤n∧n≤1099511627775):=by rw [Bool.eq_iff_iff,Zae,decide_eq_true_eq]
 rw [hir] at hin
 by_cases h1:n < 0∨1099511627775 < n
 ·rw [show signed n=0 from if_pos h1]
  rw [decide_eq_false (by omega)] at hin
  refine AC.go Tryz.func227 Tryz.ntmps227 fun B W hr=>?_
  repeat' (first|refine pa ?_|(refine pb ?_ ?_<;>intro hg)|(refine Zab (n:=20) ?_;(first|refine Zaa hin ?_))|refine po ?_|fail)
  all_goals first
   | (refine pfin ?_;exact .inl rfl)
   | (exfalso;omega)
 ·rw [decide_eq_true (by omega)] at hin
  have ht:n.tmod 2=n % 2:=Int.tmod_eq_emod_of_nonneg (by omega)
  have hb:bits .and .i64 n 1=n % 2:=by
   obtain ⟨k,rfl⟩:=Int.eq_ofNat_of_zero_le (show 0≤n by omega)
   have:=Zd6 k 1 (by omega) (by omega)
   rw [show ((1:Nat):Int)=1 from rfl] at this
   rw [this,show (1:Nat)=2 ^ 1 - 1 from rfl,Nat.and_two_pow_sub_one_eq_mod]
   omega
  by_cases h2:n % 2=0
  ·rw [show signed n=n / 2 by rw [signed,if_neg h1,if_pos h2]]
   refine AC.go Tryz.func227 Tryz.ntmps227 fun B W hr=>?_
   repeat' (first|refine pa ?_|(refine pb ?_ ?_<;>intro hg)|(refine Zab (n:=20) ?_;(first|refine Zaa hin ?_))|refine po ?_|fail)
   all_goals first
    | (refine pfin ?_;exact .inl rfl)
    | (exfalso;have hg':¬ bits .and .i64 n 1=1∨True:=.inr trivial;first|(have:bits .and .i64 n 1=1:=hg;omega)|omega)
  ·rw [show signed n=-((n + 1) / 2) by rw [signed,if_neg h1,if_neg h2]]
   have hq:(IntKind.i64.wrap (0 - (n + 1))).tdiv 2=-((n + 1) / 2):=by
    rw [wrap_i64 (by omega)]
    have h3:0 - (n + 1)=2 * -((n + 1) / 2):=by omega
    rw [h3]
    exact Int.mul_tdiv_cancel_left _ (by decide)
   refine AC.go Tryz.func227 Tryz.ntmps227 fun B W hr=>?_
   repeat' (first|refine pa ?_|(refine pb ?_ ?_<;>intro hg)|(refine Zab (n:=20) ?_;(first|refine Zaa hin ?_))|refine po ?_|fail)
   all_goals try refine Zvy ?_
   all_goals repeat' (first|refine pa ?_|(refine pb ?_ ?_<;>intro hg)|refine po ?_|fail)
   all_goals first
    | (refine pfin ?_;exact .inl (congrArg (T.int .i64) (by first|omega|(rw [hq];exact wrap_i64 (by omega)))))
    | (exfalso;first|(have:¬ bits .and .i64 n 1=1:=hg;omega)|omega)
theorem Zip (s:List UInt8) (p:Int) (hs:s.length≤1073741824):AC Tryz.prog 178 [.t (.str s),.t (.int .i64 p)] (.tup [.fr true 3 (Zak (unpI s p).1),.t (.int .i64 (unpI s p).2.1),.t (.bool (unpI s p).2.2)]):=by
 have hdv:=ZbN s p
 rcases hd:Zag s p with ⟨n,m,ok⟩
 rw [hd] at hdv
 dsimp only at hdv
 have key:∀ ok,ok=false∨ok=true:=fun ok=>by cases ok<;>simp
 cases ok with
 | false =>
  obtain ⟨rfl,rfl⟩:=Zdg hd
  rw [Znf hd]
  refine AC.go Tryz.func178 Tryz.ntmps178 fun B W hr=>?_
  repeat' (first|refine pa ?_|(refine pb ?_ ?_<;>intro hg)|(refine Zab (n:=20) ?_;(first|refine Zaa hdv ?_))|refine po ?_|fail)
  refine aW.loopF rfl (fun q:Nat=>[]) [(11,_),(10,_),(9,_),(8,_),(7,_),(1,_),(0,_)] (fun q=>[]) [(22,_,_)] (fun q=>True) (fun q=>0) 0 trivial (by (exact plei)) ?_
  rintro q -
  refine pln ?_
  repeat' (first|refine pa ?_|(refine pb ?_ ?_<;>intro hg)|refine po ?_|fail)
  all_goals refine pfin ?_
  all_goals (exact pgiv)
 | true =>
  obtain ⟨g1,g2,g3,g4,g5,g6,_⟩:=Zav hd
  refine AC.go Tryz.func178 Tryz.ntmps178 fun B W hr=>?_
  repeat' (first|refine pa ?_|(refine pb ?_ ?_<;>intro hg)|(refine Zab (n:=20) ?_;(first|refine Zaa hdv ?_))|refine po ?_|fail)
  refine aW.loopF rfl (fun q:Nat×Nat×List (List T)×Int×Bool=>[(11,.t (.int .i64 q.1)),(10,.hnd 22 q.2.1),(8,.t (.int .i64 q.2.2.2.1)),(9,.t (.bool q.2.2.2.2))]) [(7,_),(1,_),(0,_)] (fun q=>[(22,q.2.1,.row true true 3 q.2.2.1)]) [] (fun q=>(q.2.2.2.2=false→Zbj s n.toNat [] (p + m)=none)∧(q.2.2.2.2=true→q.1≤n.toNat∧q.1 < q.2.2.2.1∧p + q.2.2.2.1≤s.length∧∃ acc,q.2.2.1=Zak acc∧acc.length=q.1∧Zbj s (n.toNat - q.1) acc (p + q.2.2.2.1)=Zbj s n.toNat [] (p + m))) (fun q=>if q.2.2.2.2 then n.toNat - q.1 + 1 else 0) (0,1,[],m,true) ⟨fun h=>(by cases h),fun _=>⟨Nat.zero_le _,by show ((0:Nat):Int) < m;omega,by show p + m≤s.length;omega,[],rfl,rfl,rfl⟩⟩ (by (exact plei)) ?_
  rintro ⟨k,ep,els,z,okk⟩ hI
  obtain ⟨hI0,hI1⟩:(okk=false→Zbj s n.toNat [] (p + m)=none)∧(okk=true→k≤n.toNat∧k < z∧p + z≤s.length∧∃ acc,els=Zak acc∧acc.length=k∧Zbj s (n.toNat - k) acc (p + z)=Zbj s n.toNat [] (p + m)):=hI
  cases okk with
  | false =>
   rw [Zh3 hd (hI0 rfl)]
   refine pln ?_
   repeat' (first|refine pa ?_|(refine pb ?_ ?_<;>intro hg)|refine po ?_|fail)
   all_goals refine pfin ?_
   all_goals (exact pgiv)
  | true =>
   obtain ⟨hk,hz0,hz1,acc,he,hal,hu⟩:=hI1 rfl
   subst he
   have hel:=Zal acc
   refine pln ?_
   by_cases hkn:(k:Int) < n
   ·rw [show n.toNat - k=(n.toNat - (k + 1)) + 1 by omega] at hu
    have hdk:=ZbN s (p + z)
    rcases hd2:Zag s (p + z) with ⟨v,j,ok2⟩
    rw [hd2] at hdk
    dsimp only at hdk
    rw [ZgS hd2] at hu
    cases ok2 with
    | false =>
     rw [if_neg (by decide)] at hu
     obtain ⟨rfl,rfl⟩:=Zdg hd2
     repeat' (first|refine pa ?_|(refine pb ?_ ?_<;>intro hg)|(refine Zab (n:=20) ?_;(first|refine Zaa hdk ?_|refine Zaa (Zgu _) ?_))|refine po ?_|fail)
     refine ⟨(k + 1,_,_,_,false),⟨fun _=>hu.symm,fun h=>(by cases h)⟩,?_,by (exact ple)⟩
     show (if false=true then _ else 0) < (if true=true then n.toNat - k + 1 else 0)
     simp
    | true =>
     rw [if_pos rfl] at hu
     obtain ⟨f1,f2,f3,f4,f5,f6,_⟩:=Zav hd2
     repeat' (first|refine pa ?_|(refine pb ?_ ?_<;>intro hg)|(refine Zab (n:=20) ?_;(first|refine Zaa hdk ?_|refine Zaa (Zgu _) ?_))|refine po ?_|fail)
     refine ⟨(k + 1,_,_,_,true),⟨fun h=>(by cases h),fun _=>⟨?_,?_,?_,acc++[signed v],Zkx _ _,?_,?_⟩⟩,?_,by (exact ple)⟩
     ·show k + 1≤n.toNat;omega
     ·show ((k + 1:Nat):Int) < z + j;omega
     ·show p + (z + j)≤s.length;omega
     ·show (acc++[signed v]).length=k + 1;simp;omega
     ·show Zbj s (n.toNat - (k + 1)) _ (p + (z + j))=_
      rw [← hu,Int.add_assoc]
     ·show (if true=true then n.toNat - (k + 1) + 1 else 0) < (if true=true then n.toNat - k + 1 else 0)
      simp
      omega
   ·rw [show n.toNat - k=0 by omega,Zbj] at hu
    rw [Zld hd hu.symm]
    repeat' (first|refine pa ?_|(refine pb ?_ ?_<;>intro hg)|(refine Zab (n:=20) ?_;(first|refine Zaa (Zgu _) ?_))|refine po ?_|fail)
    all_goals refine pfin ?_
    all_goals (refine ⟨?_,.inl (congrArg (T.int .i64) (by show z=p + z - p;omega)),.inl rfl,trivial⟩;first|exact rfl|exact .inl rfl)
theorem ZnF {xs:List Int} {k i:Nat}:(xs.drop k).getD i 0=xs.getD (k + i) 0:=by
 rw [List.getD_eq_getElem?_getD,List.getElem?_drop,← List.getD_eq_getElem?_getD]
theorem ZlV {xs:List Int} {n k:Nat}:Zcj (xs.drop n) k=Zcj xs (n + k):=by
 unfold Zcj
 simp only [ZnF,Nat.add_assoc]
theorem ZlL (a b:List UInt8) (hb:b.length≤1048576):AC Tryz.prog 201 [.t (.str a),.t (.str b)] (.t (.str (ZbB a b))):=by
 refine AC.go Tryz.func201 Tryz.ntmps201 fun B W hr=>?_
 repeat' (first|refine pa ?_|(refine pb ?_ ?_<;>intro hg)|refine po ?_|fail)
 refine aW.loopF rfl (fun q:Nat=>[(6,.t (.int .i64 q))]) [(0,_),(4,_),(5,_)] (fun q=>[(8,1,.row true true 5 (Zao (ZbL a b q)))]) [] (fun q=>q≤b.length) (fun q=>b.length - q) 0 (Nat.zero_le _) (by (exact plei)) ?_
 intro k hk
 have hk:k≤b.length:=hk
 have hxl:=Zh7 (a:=a) hk
 have hxe:(Zao (ZbL a b k)).length=b.length:=Zc8.trans hxl
 refine pln ?_
 by_cases hkb:k < b.length
 ·by_cases hka:(k:Int) < a.length
  ·repeat' (first|refine pa ?_|(refine pb ?_ ?_<;>intro hg)|refine po ?_|(refine pdr [] 12 (by (apply pct 12 4095 0;(focus (intro hd2;(apply pct 12 511 3;(focus (intro hd1;(refine pt0_ 0 ?_<;>refine pt0_ 1 ?_<;>refine pt0_ 2 ?_<;>refine pt0_ 3 ?_<;>refine Za7 4 ?_<;>refine pt0_ 6 ?_<;>refine pt0_ 7 ?_<;>refine pt18_ 8 ?_<;>(refine pq1 5 ?_;(focus ((refine pop ?_;refine pk7 ?_)<;>(exact ptm hd1)))))));(case main=>(refine Zbh 9 ?_<;>refine Za7 10 ?_<;>(refine pq1 11 ?_;(focus ((refine pop ?_;refine pk8 ?_)<;>(exact ptm hd2)))))))));(case main=>((refine ZaI ?_;exact ZaJ))))) ?_)|fail)
   rw [Zpv hkb hka]
   exact ⟨k + 1,hkb,by omega,by (exact ple)⟩
  ·repeat' (first|refine pa ?_|(refine pb ?_ ?_<;>intro hg)|refine po ?_|fail)
   rw [Zej (.inr (by omega))]
   refine pfin ?_
   exact .inl (congrArg T.str (Zbf _))
 ·repeat' (first|refine pa ?_|(refine pb ?_ ?_<;>intro hg)|refine po ?_|fail)
  rw [Zej (.inl (by omega))]
  refine pfin ?_
  exact .inl (congrArg T.str (Zbf _))
end Go.Proofs.YthfaongbpdnlnaaGreat
