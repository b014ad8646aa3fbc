/- What is proved: the calculus of abstract states: zeros are appended (gc's append of make: a number in the place of a list).
   Conditions: none beyond those that each lemma names. -/
import Derived.Test.YthfaongbpdnlnaaGreatT18
namespace Go.Proofs.YthfaongbpdnlnaaGreat
set_option maxHeartbeats 4000000
set_option maxRecDepth 20000
set_option linter.unusedSimpArgs false
set_option linter.unusedVariables false
open Go.RowKit Ab
theorem ZpI {f k n:Nat} {c:UInt8} {r:List UInt8} (hc:¬ 128≤c.toNat):decI (f + 1) k n (c :: r)=if (c.toNat=0∧0 < k)∨1099511627775 < n + c.toNat % 128 * 128 ^ k then none else some (n + c.toNat % 128 * 128 ^ k,k + 1):=by
 rw [decI,if_neg hc]
theorem ZbM (s:List UInt8) (p:Int):AC Tryz.prog 183 [.t (.str s),.t (.int .i64 p)] (.tup [.t (.int .i64 (Zag s p).1),.t (.int .i64 (Zag s p).2.1),.t (.bool (Zag s p).2.2)]):=by
 by_cases hp:0≤p∧p < s.length
 ·obtain ⟨h0,h1⟩:=hp
  obtain ⟨at_,rfl⟩:=Int.eq_ofNat_of_zero_le h0
  have hat:at_ < s.length:=by omega
  refine AC.go Tryz.func183 Tryz.ntmps183 fun B W hr=>?_
  obtain ⟨us,hus⟩:=hr
  have hl:=ZeK (ZaR hus (i:=0) rfl)
  clear hus
  repeat' (first|refine pa ?_|(refine pb ?_ ?_<;>intro hg)|refine po ?_|fail)
  refine aW.loopF rfl (fun q:Nat×Int=>[(7,.t (.int .i64 q.2)),(8,.t (.int .i64 q.1))]) [(1,_),(0,_)] (fun q=>[]) [] (fun q=>q.1≤6∧q.1≤s.length - at_∧∃ m:Nat,q.2=m∧m < 128 ^ q.1∧decI (6 - q.1) q.1 m (s.drop (at_ + q.1))=decI 6 0 0 (s.drop at_)) (fun q=>6 - q.1) (0,0) ⟨by decide,Nat.zero_le _,0,rfl,by decide,rfl⟩ (by (exact plei)) ?_
  rintro ⟨k,v⟩ hI
  obtain ⟨hk,hks,n,hv,hn,hd⟩:k≤6∧k≤s.length - at_∧∃ m:Nat,v=m∧m < 128 ^ k∧decI (6 - k) k m (s.drop (at_ + k))=decI 6 0 0 (s.drop at_):=hI
  subst hv
  refine pln ?_
  by_cases hk6:k < 6
  ·by_cases hk7:k < s.length - at_
   ·have hti:((at_:Int) + (k:Int)).toNat=at_ + k:=by omega
    rw [Zmx (s:=s) (p:=at_ + k) (by omega),← hti,show 6 - k=(5 - k) + 1 by omega] at hd
    have hsh:=shB_eq (c:=s.getD ((at_:Int) + (k:Int)).toNat 0) hk6
    unfold shB at hsh
    have hc:=(s.getD ((at_:Int) + (k:Int)).toNat 0).toNat_lt
    have hb:=Zmp (c:=(s.getD ((at_:Int) + (k:Int)).toNat 0).toNat) hk6 hn
    have hp6:=ZjF (k:=k + 1) (by omega)
    by_cases hc1:128≤(s.getD ((at_:Int) + (k:Int)).toNat 0).toNat
    ·rw [Zkk _ _ _ _ _ hc1] at hd
     repeat' (first|refine pa ?_|(refine pb ?_ ?_<;>intro hg)|refine po ?_|fail)
     refine ⟨(k + 1,_),⟨?_,?_,n + (s.getD ((at_:Int) + (k:Int)).toNat 0).toNat % 128 * 128 ^ k,?_,hb,?_⟩,?_,by (exact ple)⟩
     ·show k + 1≤6;omega
     ·show k + 1≤s.length - at_;omega
     ·show (n:Int) + _=_;rw [hsh];omega
     ·show decI (6 - (k + 1)) (k + 1) _ (s.drop (at_ + (k + 1)))=_
      rw [← hd,show 6 - (k + 1)=5 - k by omega,hti,Nat.add_assoc]
     ·show 6 - (k + 1) < 6 - k;omega
    ·rw [ZpI hc1] at hd
     by_cases hc2:(s.getD ((at_:Int) + (k:Int)).toNat 0).toNat=0∧0 < k
     ·rw [if_pos (.inl hc2)] at hd
      rw [Zbb hd.symm]
      obtain ⟨hz,hk0⟩:=hc2
      repeat' (first|refine pa ?_|(refine pb ?_ ?_<;>intro hg)|refine po ?_|fail)
      refine pfin ?_
      exact ⟨.inl rfl,.inl rfl,.inl rfl,trivial⟩
     ·by_cases hc3:1099511627775 < n + (s.getD ((at_:Int) + (k:Int)).toNat 0).toNat % 128 * 128 ^ k
      ·rw [if_pos (.inr hc3)] at hd
       rw [Zbb hd.symm]
       repeat' (first|refine pa ?_|(refine pb ?_ ?_<;>intro hg)|refine po ?_|fail)
       all_goals first
        | (refine pfin ?_;exact ⟨.inl rfl,.inl rfl,.inl rfl,trivial⟩)
        | (exfalso;omega)
      ·rw [if_neg (not_or.2 ⟨hc2,hc3⟩)] at hd
       rw [ZdO hd.symm]
       repeat' (first|refine pa ?_|(refine pb ?_ ?_<;>intro hg)|refine po ?_|fail)
       all_goals first
        | (refine pfin ?_;exact ⟨.inl (congrArg (T.int .i64) (by rw [hsh];omega)),.inl rfl,.inl rfl,trivial⟩)
        | (exfalso;omega)
   ·rw [List.drop_of_length_le (by omega),Zjv] at hd
    rw [Zbb hd.symm]
    repeat' (first|refine pa ?_|(refine pb ?_ ?_<;>intro hg)|refine po ?_|fail)
    refine pfin ?_
    exact ⟨.inl rfl,.inl rfl,.inl rfl,trivial⟩
  ·rw [show 6 - k=0 by omega,decI] at hd
   rw [Zbb hd.symm]
   repeat' (first|refine pa ?_|(refine pb ?_ ?_<;>intro hg)|refine po ?_|fail)
   refine pfin ?_
   exact ⟨.inl rfl,.inl rfl,.inl rfl,trivial⟩
 ·rw [Zel hp]
  refine AC.go Tryz.func183 Tryz.ntmps183 fun B W hr=>?_
  repeat' (first|refine pa ?_|(refine pb ?_ ?_<;>intro hg)|refine po ?_|fail)
  all_goals refine pfin ?_
  all_goals exact ⟨.inl rfl,.inl rfl,.inl rfl,trivial⟩
theorem Zih (s:List UInt8) (p:Int):AC Tryz.prog 230 [.t (.str s),.t (.int .i64 p)] (.tup [.t (.str (unpX s p).1),.t (.int .i64 (unpX s p).2.1),.t (.bool (unpX s p).2.2)]):=by
 have hdv:=ZbM s p
 refine AC.go Tryz.func230 Tryz.ntmps230 fun B W hr=>?_
 obtain ⟨us,hus⟩:=hr
 have hl:=ZeK (ZaR hus (i:=0) rfl)
 clear hus
 rcases hd:Zag s p with ⟨n,m,ok⟩
 rw [hd] at hdv
 dsimp only at hdv
 cases ok with
 | false =>
  rw [Znh hd]
  repeat' (first|refine pa ?_|(refine pb ?_ ?_<;>intro hg)|(refine pz9 ?_;(first|refine Zaa hdv ?_))|refine po ?_|fail)
  all_goals refine pfin ?_
  all_goals exact ⟨.inl rfl,.inl rfl,.inl rfl,trivial⟩
 | true =>
  obtain ⟨g1,g2,g3,g4,g5,g6,_⟩:=Zav hd
  by_cases hlong:(s.length:Int) - p - m < n
  ·rw [Zle hd hlong]
   repeat' (first|refine pa ?_|(refine pb ?_ ?_<;>intro hg)|(refine pz9 ?_;(first|refine Zaa hdv ?_))|refine po ?_|fail)
   all_goals refine pfin ?_
   all_goals exact ⟨.inl rfl,.inl rfl,.inl rfl,trivial⟩
  ·rw [Zpm hd hlong]
   repeat' (first|refine pa ?_|(refine pb ?_ ?_<;>intro hg)|(refine pz9 ?_;(first|refine Zaa hdv ?_))|refine po ?_|fail)
   all_goals refine pfin ?_
   all_goals exact ⟨.inl (congrArg T.str (congrArg (fun k=>List.take k (s.drop (p + m).toNat)) (by omega))),.inl rfl,.inl rfl,trivial⟩
theorem Zgq (n:Int):AC Tryz.prog 231 [.t (.int .i64 n)] (.t (.int .i64 (signed n))):=by
 have hin:=Zah n 0 1099511627775
 have hir:inR n 0 1099511627775=decide (0≤n∧n≤1099511627775):=by rw [Bool.eq_iff_iff,Zae,decide_eq_true_eq]
 rw [hir] at hin
 by_cases h1:n < 0∨1099511627775 < n
 ·rw [show signed n=0 from if_pos h1]
  rw [decide_eq_false (by omega)] at hin
  refine AC.go Tryz.func231 Tryz.ntmps231 fun B W hr=>?_
  repeat' (first|refine pa ?_|(refine pb ?_ ?_<;>intro hg)|(refine pz9 ?_;(first|refine Zaa hin ?_))|refine po ?_|fail)
  all_goals first
   | (refine pfin ?_;exact .inl rfl)
   | (exfalso;omega)
 ·rw [decide_eq_true (by omega)] at hin
  have ht:n.tmod 2=n % 2:=Int.tmod_eq_emod_of_nonneg (by omega)
  have hb:bits .and .i64 n 1=n % 2:=by
   obtain ⟨k,rfl⟩:=Int.eq_ofNat_of_zero_le (show 0≤n by omega)
   have:=Zd6 k 1 (by omega) (by omega)
   rw [show ((1:Nat):Int)=1 from rfl] at this
   rw [this,show (1:Nat)=2 ^ 1 - 1 from rfl,Nat.and_two_pow_sub_one_eq_mod]
   omega
  by_cases h2:n % 2=0
  ·rw [show signed n=n / 2 by rw [signed,if_neg h1,if_pos h2]]
   refine AC.go Tryz.func231 Tryz.ntmps231 fun B W hr=>?_
   repeat' (first|refine pa ?_|(refine pb ?_ ?_<;>intro hg)|(refine pz9 ?_;(first|refine Zaa hin ?_))|refine po ?_|fail)
   all_goals first
    | (refine pfin ?_;exact .inl rfl)
    | (exfalso;have hg':¬ bits .and .i64 n 1=1∨True:=.inr trivial;first|(have:bits .and .i64 n 1=1:=hg;omega)|omega)
  ·rw [show signed n=-((n + 1) / 2) by rw [signed,if_neg h1,if_neg h2]]
   have hq:(IntKind.i64.wrap (0 - (n + 1))).tdiv 2=-((n + 1) / 2):=by
    rw [wrap_i64 (by omega)]
    have h3:0 - (n + 1)=2 * -((n + 1) / 2):=by omega
    rw [h3]
    exact Int.mul_tdiv_cancel_left _ (by decide)
   refine AC.go Tryz.func231 Tryz.ntmps231 fun B W hr=>?_
   repeat' (first|refine pa ?_|(refine pb ?_ ?_<;>intro hg)|(refine pz9 ?_;(first|refine Zaa hin ?_))|refine po ?_|fail)
   all_goals try refine Zvy ?_
   all_goals repeat' (first|refine pa ?_|(refine pb ?_ ?_<;>intro hg)|refine po ?_|fail)
   all_goals first
    | (refine pfin ?_;exact .inl (congrArg (T.int .i64) (by first|omega|(rw [hq];exact wrap_i64 (by omega)))))
    | (exfalso;first|(have:¬ bits .and .i64 n 1=1:=hg;omega)|omega)
theorem Zig (s:List UInt8) (p:Int) (hs:s.length≤1073741824):AC Tryz.prog 185 [.t (.str s),.t (.int .i64 p)] (.tup [.fr true 3 (Zak (unpI s p).1),.t (.int .i64 (unpI s p).2.1),.t (.bool (unpI s p).2.2)]):=by
 have hdv:=ZbM s p
 rcases hd:Zag s p with ⟨n,m,ok⟩
 rw [hd] at hdv
 dsimp only at hdv
 cases ok with
 | false =>
  rw [Znf hd]
  refine AC.go Tryz.func185 Tryz.ntmps185 fun B W hr=>?_
  repeat' (first|refine pa ?_|(refine pb ?_ ?_<;>intro hg)|(refine pz9 ?_;(first|refine Zaa hdv ?_))|refine po ?_|fail)
  all_goals refine pfin ?_
  all_goals (exact pgiv)
 | true =>
  obtain ⟨g1,g2,g3,g4,g5,g6,_⟩:=Zav hd
  by_cases hlong:(s.length:Int) - p - m < n
  ·have hu:Zbj s n.toNat [] (p + m)=none:=by
    rcases ZfH s n.toNat [] (p + m) (by omega) with h|h
    ·exact h
    ·omega
   rw [Zh3 hd hu]
   refine AC.go Tryz.func185 Tryz.ntmps185 fun B W hr=>?_
   repeat' (first|refine pa ?_|(refine pb ?_ ?_<;>intro hg)|(refine pz9 ?_;(first|refine Zaa hdv ?_))|refine po ?_|fail)
   all_goals refine pfin ?_
   all_goals (exact pgiv)
  ·refine AC.go Tryz.func185 Tryz.ntmps185 fun B W hr=>?_
   repeat' (first|refine pa ?_|(refine pb ?_ ?_<;>intro hg)|(refine pz9 ?_;(first|refine Zaa hdv ?_))|refine po ?_|fail)
   refine aW.loopF rfl (fun q:Nat×Nat×List (List T)×Int=>[(11,.t (.int .i64 q.1)),(10,.hnd 35 q.2.1),(8,.t (.int .i64 q.2.2.2))]) [(7,_),(1,_),(0,_)] (fun q=>[(35,q.2.1,.row true true 3 q.2.2.1)]) [] (fun q=>q.1≤n.toNat∧0≤q.2.2.2∧p + q.2.2.2≤s.length∧∃ acc,q.2.2.1=Zak acc∧acc.length=q.1∧Zbj s (n.toNat - q.1) acc (p + q.2.2.2)=Zbj s n.toNat [] (p + m)) (fun q=>n.toNat - q.1) (0,1,_,m) ⟨Nat.zero_le _,by show 0≤m;omega,by show p + m≤s.length;omega,[],rfl,rfl,rfl⟩ (by (exact plei)) ?_
   rintro ⟨k,ep,els,z⟩ hI
   obtain ⟨hk,hz0,hz1,acc,he,hal,hu⟩:k≤n.toNat∧0≤z∧p + z≤s.length∧∃ acc,els=Zak acc∧acc.length=k∧Zbj s (n.toNat - k) acc (p + z)=Zbj s n.toNat [] (p + m):=hI
   subst he
   have hel:=Zal acc
   refine pln ?_
   by_cases hkn:(k:Int) < n
   ·rw [show n.toNat - k=(n.toNat - (k + 1)) + 1 by omega] at hu
    have hdk:=ZbM s (p + z)
    rcases hd2:Zag s (p + z) with ⟨v,j,ok2⟩
    rw [hd2] at hdk
    dsimp only at hdk
    rw [ZgS hd2] at hu
    cases ok2 with
    | false =>
     rw [if_neg (by decide)] at hu
     rw [Zh3 hd hu.symm]
     repeat' (first|refine pa ?_|(refine pb ?_ ?_<;>intro hg)|(refine pz9 ?_;(first|refine Zaa hdk ?_|refine Zaa (Zgq _) ?_))|refine po ?_|fail)
     all_goals refine pfin ?_
     all_goals (exact pgiv)
    | true =>
     rw [if_pos rfl] at hu
     obtain ⟨f1,f2,f3,f4,f5,f6,_⟩:=Zav hd2
     repeat' (first|refine pa ?_|(refine pb ?_ ?_<;>intro hg)|(refine pz9 ?_;(first|refine Zaa hdk ?_|refine Zaa (Zgq _) ?_))|refine po ?_|fail)
     refine ⟨(k + 1,_,_,_),⟨?_,?_,?_,acc++[signed v],Zkx _ _,?_,?_⟩,?_,by (exact ple)⟩
     ·show k + 1≤n.toNat;omega
     ·show 0≤z + j;omega
     ·show p + (z + j)≤s.length;omega
     ·show (acc++[signed v]).length=k + 1;simp;omega
     ·show Zbj s (n.toNat - (k + 1)) _ (p + (z + j))=_
      rw [← hu,Int.add_assoc]
     ·show n.toNat - (k + 1) < n.toNat - k;omega
   ·rw [show n.toNat - k=0 by omega,Zbj] at hu
    rw [Zld hd hu.symm]
    repeat' (first|refine pa ?_|(refine pb ?_ ?_<;>intro hg)|(refine pz9 ?_;(first|refine Zaa (Zgq _) ?_))|refine po ?_|fail)
    all_goals refine pfin ?_
    all_goals (refine ⟨?_,.inl (congrArg (T.int .i64) (by show z=p + z - p;omega)),.inl rfl,trivial⟩;first|exact rfl|exact .inl rfl)
end Go.Proofs.YthfaongbpdnlnaaGreat
namespace Go.Proofs.YthfaongbpdnlnaaGreat.Ab
set_option maxHeartbeats 4000000
set_option maxRecDepth 20000
set_option linter.unusedSimpArgs false
set_option linter.unusedVariables false
open Go.RowKit Go.Lib
section
variable {P:Program} {B:Nat→Prop} {W:En} {st:St} {o:Oper} {KE:V→List (Nat×Nat×Ob)→Prop}
theorem OpS.same {op':Op} (he:∀ a w pl F,SimW P B W st a w pl F→(execOp a.eval o).run P w=(execOp a.eval { o with op:=op' }).run P w) (h:OpS P B W { o with op:=op' } st KE):OpS P B W o st KE:=fun a w pl F hS next Q hn=>by
 have:=h a w pl F hS next Q hn
 unfold Oper.wp at this ⊢
 rw [he a w pl F hS]
 revert this
 generalize (execOp a.eval { o with op:=op' }).run P w=r
 intro this
 cases r with
 | ok x w'=>cases x<;>exact this
 | halt x w'=>cases x<;>exact this
def Zcz (m:Nat):List UInt8:=List.replicate m 0
theorem Zc6 (m:Nat):Builtin.zeroCells #[.int .u8 0] m=(List.replicate m (Value.int .u8 0)).toArray:=by
 unfold Builtin.zeroCells
 apply Array.ext'
 rw [Array.toList_map,Array.toList_range]
 simp only [List.size_toArray,List.length_cons,List.length_nil,Nat.zero_add,Nat.mul_one,Nat.mod_one]
 rw [List.eq_replicate_iff]
 refine ⟨by simp,fun b hb=>?_⟩
 obtain ⟨k,_,rfl⟩:=List.mem_map.1 hb
 rfl
theorem Zcd {w:World} (m:Nat):(Builtin.firstCells 1 m (.string (bs (Zcz m)))).run P w=.ok (List.replicate m (Value.int .u8 0)).toArray w:=by
 have h:=run_firstCells_string (P:=P) w 1 (bs (Zcz m))
 rw [Zb5,Zcz,List.length_replicate] at h
 rw [Zcz,h]
 congr 1
 apply Array.ext'
 simp [strCells,bs]
theorem ZgZ {w:World} {t xt xs ty e:TypeId} {i:TypeInfo} {z:Value} {kq kn:IntKind} (ht:P.underlying t=some (.slice e)) (htn:P.underlying xt=some (.int kn)) (hts:P.underlying xs=some .string) (hi:P.info? e=some i) (hz:i.zero=some z) (hzc:z.cells=#[.int .u8 0]) (hs:i.size=1) (hb:i.bytes=1)
  {base:Option Addr} {n cap m:Nat} (hm:m≤maxLen) (hfit:n + m≤140737488355328):(Builtin.append_ #[t,xt] ty #[.slice base n cap,.int kq m]).run P w=(Builtin.append_ #[t,xs] ty #[.slice base n cap,.string (bs (Zcz m))]).run P w:=by
 have hw:IntKind.i64.wrap (m:Int)=m:=by rw [IntKind.wrap_i64];simp only [maxLen] at hm;omega
 have hneg:¬ ((m:Int) < 0):=by omega
 have hlen:(Builtin.lenOf (.string (bs (Zcz m)))).run P w=.ok m w:=by simp [Builtin.lenOf,Zb5,Zcz]
 have h48:¬ (281474976710656 < (m:Int)):=by omega
 have hw0:IntKind.i64.wrap 0=0:=rfl
 by_cases hr:n + m≤cap
 ·by_cases h0:m=0
  ·subst h0
   rw [Nat.add_zero] at hr
   simp [Builtin.append_,run_underlying ht,run_underlying htn,run_underlying hts,sizeOf,typeInfo,zeroValue,hi,hz,asInt,asIntOf,hw,hneg,hs,hb,hr,hlen,hzc,Zc6,Zcd,h48,hw0]
  ·simp [Builtin.append_,run_underlying ht,run_underlying htn,run_underlying hts,sizeOf,typeInfo,zeroValue,hi,hz,asInt,asIntOf,hw,hneg,hs,hb,hr,hlen,hzc,Zc6,Zcd,h48,hw0,h0]
 ·have h0:m ≠ 0∨m=0:=by omega
  have h63':¬ (9223372036854775807 < ((n:Int) + (m:Int))):=by omega
  have hfit2:=growslice_fits (need:=n + m) (old:=cap) (bytes:=1) (by omega) (by omega)
  have h48':¬ (281474976710656 < Builtin.nextslicecap (n + m) cap):=by omega
  rcases h0 with h0|h0
  ·simp [Builtin.append_,run_underlying ht,run_underlying htn,run_underlying hts,sizeOf,typeInfo,zeroValue,hi,hz,asInt,asIntOf,hw,hneg,hs,hb,hr,hlen,hzc,Zc6,Zcd,h48,hw0,h0,h63',h48']
  ·subst h0
   rw [Nat.add_zero] at hr h48'
   have h63':¬ (9223372036854775807 < (n:Int)):=by omega
   simp [Builtin.append_,run_underlying ht,run_underlying htn,run_underlying hts,sizeOf,typeInfo,zeroValue,hi,hz,asInt,asIntOf,hw,hneg,hs,hb,hr,hlen,hzc,Zc6,Zcd,h48,hw0,h63',h48']
theorem OpS.append_zeros {s x:Operand} {c:Call} {t xt xs e e' i ep:Nat} {m:Int} {kq kx:IntKind} {y yx yt ye:Ty} {els0:List (List T)} {d0 fl0:Bool} (ho:o.op=.call c) (h1:c.callee=.builtin .append) (h2:c.args=#[s,x]) (h3:c.argTypes=#[t,xt])
  (hy:Zac P t=some y) (hk:y.k=.slice e 1 1) (hyx:Zac P xt=some yx) (hkx:yx.k=.int kx) (hyt:Zac P xs=some yt) (hkt:yt.k=.str) (hye:Zac P e=some ye) (hz:ye.zero=some [.t (.int .u8 0)]) (hzs:ye.size=1) (hs:st.ev s=.hnd i ep) (hx:st.ev x=.t (.int kq m)) (hl:look st.objs i=some (ep,.row fl0 d0 e' els0)) (he:e'=e)
  (hm:0≤m) (hfit:els0.length + m.toNat≤140737488355328)
  (hK:KE (.hnd i (ep + 1)) [(i,ep + 1,.row fl0 d0 e (els0++List.replicate m.toNat [.int .u8 0]))]):OpS P B W o st KE:=by
 subst he
 obtain ⟨n,rfl⟩:=Int.eq_ofNat_of_zero_le hm
 rw [Int.toNat_natCast] at hfit hK
 have hz8:(Zcz n).map (fun c=>[T.int .u8 (c.toNat:Nat)])=List.replicate n [T.int .u8 0]:=by
  unfold Zcz
  rw [List.map_replicate]
  rfl
 have hmx:maxLen=9223372036854775807:=rfl
 have hxx:st.ev (.const (.string (bs (Zcz n))))=.t (.str (Zcz n)):=by
  show (if (bs (Zcz n)).size≤maxLen then V.t (T.str (bs (Zcz n)).data.toList) else V.lit (.string (bs (Zcz n))))=_
  rw [if_pos (by rw [Zb5,Zcz,List.length_replicate];omega)]
  rfl
 refine OpS.same (op':=.call { c with args:=#[s,.const (.string (bs (Zcz n)))],argTypes:=#[t,xs] }) (fun a w pl F h=>?_)
  (OpS.append_hnd (d:=true) (d':=d0) (fl:=fl0) (ks:=[]) rfl h1 rfl rfl hy hk hyt (.inl hkt) hye hz rfl hs hl rfl (fun a w pl F h=>h.src_str hxx) (fun a w pl F h=>?_) (fun _ _ h=>by cases h) ?_ id (fun h=>⟨h,rfl⟩) ?_)
 ·obtain ⟨g1,us0,hp⟩:=h.hnd_at hs hl
  obtain ⟨g2,_⟩:=h.int_at hx
  obtain ⟨ht,hes,heb⟩:=ZaM hy hk
  obtain ⟨dx,ix,hux,_,hkx',_⟩:=Zaw hyx
  obtain ⟨dt,it,hut,_,hkt',_⟩:=Zaw hyt
  obtain ⟨de,ie,_,hi,_,hsz,hby,hzero⟩:=Zaw hye
  have hbi:ie.bytes=1:=by rw [← heb];simp [Program.bytesOf,hi]
  have hsi:ie.size=1:=by rw [← hes];simp [Program.cellsOf,hi]
  rw [hz] at hzero
  obtain ⟨z,hz1,hz2⟩:=Option.map_eq_some_iff.1 hzero.symm
  have hzc:z.cells=#[.int .u8 0]:=by
   apply Array.ext'
   generalize z.cells.toList=l at hz2 ⊢
   match l,hz2 with
   | [],h=>simp at h
   | _ :: _ :: _,h=>simp at h
   | [v],h =>
    have hv:constV v=.t (.int .u8 0):=(List.cons.inj h).1
    unfold constV at hv
    split at hv
    ·split at hv
     ·cases hv
      rfl
     ·cases hv
    ·cases hv
    ·split at hv<;>cases hv
    ·cases hv
    ·cases hv
  have hdx:dx=.int kx:=by
   rw [hkx'] at hkx
   cases dx<;>simp [kdOf] at hkx
   rw [hkx]
  have hdt:dt=.string:=by
   rw [hkt'] at hkt
   cases dt<;>simp [kdOf] at hkt
   rfl
  subst hdx hdt
  have hrun:∀ (base:Option Addr) (k cap:Nat),a.eval s=.slice base k cap→k + n≤140737488355328→(execOp a.eval o).run P w=(execOp a.eval { o with op:=.call { c with args:=#[s,.const (.string (bs (Zcz n)))],argTypes:=#[t,xs] } }).run P w:=fun base k cap hv hf=>by
   have hr:=ZgZ (P:=P) (w:=w) (ty:=o.type) (base:=base) (n:=k) (cap:=cap) (m:=n) (kq:=kq) ht hux hut hi hz1 hzc hsi hbi (by omega) hf
   have hce:a.eval (.const (.string (bs (Zcz n))))=.string (bs (Zcz n)):=rfl
   unfold execOp
   rw [ho]
   simp [resolve,h1,h2,h3,invoke,builtin,hv,g2,hce,hr]
  rcases hp.own.2 with ⟨hv,h0⟩|⟨g,off,cap,cur,fz,hv,_⟩
  ·exact hrun none 0 0 (by rw [g1,hv]) (by omega)
  ·exact hrun _ _ cap (by rw [g1,hv]) hfit
 ·rw [hz8]
  refine ⟨fun x hx=>?_,fun _ x hx=>?_⟩
  ·rw [List.eq_of_mem_replicate hx]
   rfl
  ·obtain ⟨l,hl1,hl2⟩:=List.mem_flatten.1 hx
   rw [List.eq_of_mem_replicate hl1] at hl2
   rw [List.mem_singleton.1 hl2]
   rfl
 ·rw [hz8,List.length_replicate]
  exact ⟨by omega,by omega⟩
 ·rw [hz8]
  exact hK
end
end Go.Proofs.YthfaongbpdnlnaaGreat.Ab
