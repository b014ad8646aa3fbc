/- What is proved: contracts on the bytes of a world and their sum, program and reference alike.
   Conditions: none. -/
import Derived.Test.YthfaongbpdnlnaaGreatT88
namespace Go.Proofs.YthfaongbpdnlnaaGreat
set_option maxHeartbeats 4000000
set_option maxRecDepth 20000
set_option linter.unusedSimpArgs false
set_option linter.unusedVariables false
open Go.RowKit Ab
theorem Zrw (s:List UInt8):AC Tryz.prog 128 [.t (.str s)] (.t (.int .i64 (Zms s))):=by
 refine AC.go Tryz.func128 Tryz.ntmps128 fun B W hr=>?_
 obtain ⟨us,hus⟩:=hr
 have hl:=ZeK (ZaR hus (i:=0) rfl)
 clear hus
 repeat' (first|refine pa ?_|(refine pb ?_ ?_<;>intro hg)|refine po ?_|fail)
 refine aW.loopF rfl (fun q:Nat×Int×Int=>[(5,.t (.int .i64 q.1)),(4,.t (.int .i64 q.2.2)),(3,.t (.int .i64 q.2.1))]) [(0,_)] (fun q=>[]) [] (fun q=>q.1≤s.length∧(0≤q.2.1∧q.2.1 < 65521)∧(0≤q.2.2∧q.2.2 < 65521)∧csGo (s.drop q.1) q.1 q.2.1 q.2.2=csGo s 0 0 0) (fun q=>s.length - q.1) (0,0,0) ⟨Nat.zero_le _,by decide,by decide,rfl⟩ (by (exact plei)) ?_
 rintro ⟨k,a,b⟩ hI
 obtain ⟨hk,ha,hb,hc⟩:k≤s.length∧(0≤a∧a < 65521)∧(0≤b∧b < 65521)∧csGo (s.drop k) k a b=csGo s 0 0 0:=hI
 refine pln ?_
 by_cases hkl:k < s.length
 ·have hcl:=(s.getD (k:Int).toNat 0).toNat_lt
  have hw:IntKind.i64.wrap (((s.getD (k:Int).toNat 0).toNat:Nat):Int)=(s.getD (k:Int).toNat 0).toNat:=wrap_i64 (by omega)
  rw [Zr4 hkl] at hc
  have ht1:(a + IntKind.i64.wrap (((s.getD (k:Int).toNat 0).toNat:Nat):Int)).tmod 65521=(a + (s.getD (k:Int).toNat 0).toNat) % 65521:=by rw [hw];exact Int.tmod_eq_emod_of_nonneg (by omega)
  have ht2:((k:Int) + 1).tmod 65521=((k:Int) + 1) % 65521:=Int.tmod_eq_emod_of_nonneg (by omega)
  have hm0:0≤((k:Int) + 1) % 65521∧((k:Int) + 1) % 65521 < 65521:=by omega
  have hmul:0≤((s.getD (k:Int).toNat 0).toNat:Int) * (((k:Int) + 1) % 65521)∧((s.getD (k:Int).toNat 0).toNat:Int) * (((k:Int) + 1) % 65521)≤256 * 65521:=by
   refine ⟨Int.mul_nonneg (by omega) hm0.1,?_⟩
   exact Int.mul_le_mul (by omega) (by omega) hm0.1 (by omega)
  have hmul2:IntKind.i64.wrap (((s.getD (k:Int).toNat 0).toNat:Nat):Int) * ((k:Int) + 1).tmod 65521=((s.getD (k:Int).toNat 0).toNat:Int) * (((k:Int) + 1) % 65521):=by rw [hw,ht2]
  have ht3:(b + IntKind.i64.wrap (((s.getD (k:Int).toNat 0).toNat:Nat):Int) * ((k:Int) + 1).tmod 65521).tmod 65521=(b + (s.getD (k:Int).toNat 0).toNat * (((k:Int) + 1) % 65521)) % 65521:=by rw [hmul2];exact Int.tmod_eq_emod_of_nonneg (by omega)
  repeat' (first|refine pa ?_|(refine pb ?_ ?_<;>intro hg)|refine po ?_|fail)
  refine ⟨(k + 1,_,_),⟨?_,?_,?_,?_⟩,?_,by (exact ple)⟩
  ·show k + 1≤s.length;omega
  ·show 0≤Int.tmod _ _∧Int.tmod _ _ < 65521;rw [ht1];omega
  ·show 0≤Int.tmod _ _∧Int.tmod _ _ < 65521;rw [ht3];omega
  ·show csGo (s.drop (k + 1)) ((k + 1:Nat):Int) (Int.tmod _ _) (Int.tmod _ _)=_;rw [ht1,ht3];exact hc
  ·show s.length - (k + 1) < s.length - k;omega
 ·rw [Zrz hkl] at hc
  repeat' (first|refine pa ?_|(refine pb ?_ ?_<;>intro hg)|refine po ?_|fail)
  refine pfin ?_
  exact .inl (congrArg (T.int .i64) (by rw [Zms,← hc]))
theorem Zrx (w:Wd):AC Tryz.prog 45 [.agg [.t (.lst true 9 (Zai w.level)),.t (.int .i64 w.tick),.t (.int .i64 w.seed),.t (ints 3 w.scores),.t (.lst true 114 (w.bodies.map bodyC))]] (.t (.int .i64 (Zgm w))):=by
 have h1:=Zii w
 have h2:=Zrw (Zbp w)
 refine AC.go Tryz.func45 Tryz.ntmps45 fun B W hr=>?_
 repeat' (first|refine pa ?_|(refine pb ?_ ?_<;>intro hg)|(refine Zab (n:=20) ?_;(first|refine Zaa h1 ?_|refine Zaa h2 ?_))|refine po ?_|fail)
 exact pfr
end Go.Proofs.YthfaongbpdnlnaaGreat
