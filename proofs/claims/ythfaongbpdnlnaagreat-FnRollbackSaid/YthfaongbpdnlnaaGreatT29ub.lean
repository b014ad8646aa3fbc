/- What is proved: contracts on numbers taken from a code, and on hunts of equal lists.
   Conditions: none. -/
import Derived.Test.YthfaongbpdnlnaaGreatV34
namespace Go.Proofs.YthfaongbpdnlnaaGreat
set_option maxHeartbeats 4000000
set_option maxRecDepth 20000
set_option linter.unusedSimpArgs false
set_option linter.unusedVariables false
theorem Zvp {p:Pr} (h:Zic p) (hr:Zst p):p.used=Zbr p.tracks p.base.tick p.used.length:=by
 refine List.ext_getElem (Zdk _ _ _).symm fun k h1 h2=>?_
 have e1:p.used[k]=p.used.getD k default:=(Zb6 h1).symm
 have e2:(Zbr p.tracks p.base.tick p.used.length)[k]=(Zbr p.tracks p.base.tick p.used.length).getD k default:=by rw [List.getD_eq_getElem?_getD,List.getElem?_eq_getElem h2];rfl
 rw [e1,e2,ZgF h1]
 exact hr k h1
open Go.RowKit Ab
theorem Zvq {P:Program} {e:TypeId} {xs:List Int} (h:RdT P (.lst true e (Zsm xs))):xs.length≤9223372036854775807∧∀ k,k < xs.length→0≤xs.getD k default∧xs.getD k default≤255:=by
 obtain ⟨h1,h2,h3⟩:=ZhS h
 refine ⟨by simpa [Zsm] using h1,fun k hk=>?_⟩
 have hu:∀ x ∈ Zsm xs,x.length=1:=fun x hx=>by obtain ⟨p,_,rfl⟩:=List.mem_map.1 hx;rfl
 have h4:=Zb0 hu (i:=k) (j:=0) (by simpa [Zsm] using hk) (by omega)
 have h5:(Zsm xs).getD k []=[T.int .u8 (xs.getD k default)]:=getD_map hk
 rw [h5] at h4
 obtain ⟨w,B,u,hr⟩:=h3 _ _ h4
 cases hr with
 | int hw =>
  simp only [Lit.wf,Bool.and_eq_true,decide_eq_true_eq] at hw
  exact hw
def atV (xs:List Int) (i:Int):Int:=if xs.length=0 then 0 else xs.getD ((i * 5 + 1) % xs.length).toNat default
theorem Zwd {xs:List Int} (h:∀ k,k < xs.length→0≤xs.getD k default∧xs.getD k default≤255) (i:Int):0≤atV xs i∧atV xs i≤255:=by
 unfold atV
 split
 ·omega
 ·rename_i h0
  have h1:0≤(i * 5 + 1) % (xs.length:Int):=Int.emod_nonneg _ (by omega)
  have h2:(i * 5 + 1) % (xs.length:Int) < xs.length:=Int.emod_lt_of_pos _ (by omega)
  exact h _ (by omega)
theorem ZvF (xs:List Int) (i:Int) (hi:0≤i∧i≤1000000):AC Tryz.prog 16 [.t (.lst true 5 (Zsm xs)),.t (.int .i64 i)] (.t (.int .i64 (atV xs i))):=by
 refine AC.go Tryz.func16 Tryz.ntmps16 fun B W hr=>?_
 obtain ⟨us,hus⟩:=hr
 obtain ⟨hl,hb⟩:=Zvq (ZaR hus (i:=0) rfl)
 clear hus
 have hel:(Zsm xs).length=xs.length:=List.length_map _
 by_cases h0:xs.length=0
 ·rw [show atV xs i=0 from if_pos h0]
  repeat' (first|refine pa ?_|(refine pb ?_ ?_<;>intro hg)|refine po ?_|fail)
  all_goals first
   | (refine pfin ?_;exact .inl rfl)
   | (exfalso;omega)
 ·rw [show atV xs i=xs.getD ((i * 5 + 1) % xs.length).toNat default from if_neg h0]
  have h1:0≤(i * 5 + 1) % (xs.length:Int):=Int.emod_nonneg _ (by omega)
  have h2:(i * 5 + 1) % (xs.length:Int) < xs.length:=Int.emod_lt_of_pos _ (by omega)
  have ht:(i * 5 + 1).tmod (xs.length:Int)=(i * 5 + 1) % xs.length:=Int.tmod_eq_emod_of_nonneg (by omega)
  obtain ⟨m,hm⟩:=Int.eq_ofNat_of_zero_le h1
  have hml:m < xs.length:=by omega
  have hbm:=hb m hml
  repeat' (first|refine pa ?_|(refine pb ?_ ?_<;>intro hg)|refine po ?_|fail)
  all_goals try (exfalso;omega)
  have hget:(Zsm xs).getD ((i * 5 + 1).tmod (xs.length:Int)).toNat []=[T.int .u8 (xs.getD m default)]:=by
   rw [ht,hm,Int.toNat_natCast]
   exact getD_map hml
  refine OpS.load_rptr (cs:=[T.int .u8 (xs.getD m default)]) (off:=0) rfl (congrArg (fun c=>V.rptr c 0) hget) (Tryz.ti rfl) rfl ?_
  repeat' (first|refine pa ?_|(refine pb ?_ ?_<;>intro hg)|refine po ?_|fail)
  refine pfin ?_
  refine .inl (congrArg (T.int .i64) ?_)
  rw [hm,Int.toNat_natCast]
  exact wrap_i64 (by omega)
end Go.Proofs.YthfaongbpdnlnaaGreat
