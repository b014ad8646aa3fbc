/- What is proved: contracts on levels, program and reference alike: when one is valid.
   Conditions: none. -/
import Derived.Test.YthfaongbpdnlnaaGreatT50
namespace Go.Proofs.YthfaongbpdnlnaaGreat
set_option maxHeartbeats 4000000
set_option maxRecDepth 20000
set_option linter.unusedSimpArgs false
set_option linter.unusedVariables false
open Go.RowKit Ab
theorem Zfs (l:Lv):AC Tryz.prog 160 [.agg [.t (.lst true 9 (Zai l))]] (.t (.bool (Zbc l))):=by
 have hll:=Zbs l
 have hwd:(l.getD 0 default).length=Zad l:=rfl
 have hb1:=Zah l.length 3 12
 have hb2:=Zah (Zad l) 4 20
 refine AC.go Tryz.func160 Tryz.ntmps160 fun B W hr=>?_
 by_cases hn:l.length < 3∨12 < l.length
 ·rw [Zg1 (by omega)]
  rw [show inR l.length 3 12=false by rw [Bool.eq_false_iff,Ne,Zae];omega] at hb1
  repeat' (first|refine pa ?_|(refine pb ?_ ?_<;>intro hg)|(refine pz9 ?_;(first|refine Zaa hb1 ?_))|refine po ?_|fail)
  all_goals first|(exfalso;omega)|(refine pfin ?_;exact .inl rfl)
 rw [show inR l.length 3 12=true by rw [Zae];omega] at hb1
 repeat' (first|refine pa ?_|(refine pb ?_ ?_<;>intro hg)|refine pxk0 ?_|(refine pz9 ?_;(first|refine Zaa hb1 ?_))|refine po ?_|fail)
 refine aW.loopF rfl (fun q:Nat×Bool×Bool×Bool×Bool×Bool=>[(6,.t (.int .i64 (q.1:Nat))),(4,.t (.bool q.2.2.2.2.2))]) [(5,_),(3,_),(1,_)] (fun q=>[(20,1,.row true true 4 (b4E q.2.1 q.2.2.1 q.2.2.2.1 q.2.2.2.2.1))]) [(1,_,_)] (fun q=>q.1≤l.length∧Scan l q.1 0 q.2.1 q.2.2.1 q.2.2.2.1 q.2.2.2.2.1 q.2.2.2.2.2∧(0 < q.1→4≤Zad l∧Zad l≤20)) (fun q=>l.length - q.1) (0,false,false,false,false,false) ⟨Nat.zero_le _,Scan.start l,fun h=>absurd h (Nat.not_lt_zero _)⟩ (by (exact plei)) ?_
 rintro ⟨r,s1,s2,s3,s4,op⟩ hI
 obtain ⟨hr,hs,hwr⟩:r≤l.length∧Scan l r 0 s1 s2 s3 s4 op∧(0 < r→4≤Zad l∧Zad l≤20):=hI
 refine pln ?_
 by_cases hrn:r < l.length
 ·by_cases hrow:(l.getD r default).length=Zad l
  ·by_cases hw:Zad l < 4∨20 < Zad l
   ·rw [Zg1 (by omega)]
    rw [show inR (Zad l) 4 20=false by rw [Bool.eq_false_iff,Ne,Zae];omega,← hwd] at hb2
    repeat' (first|refine pa ?_|(refine pb ?_ ?_<;>intro hg)|(refine pz9 ?_;(first|refine Zaa hb2 ?_))|refine po ?_|fail)
    all_goals first|(exfalso;omega)|(refine pfin ?_;exact .inl rfl)
   rw [show inR (Zad l) 4 20=true by rw [Zae];omega,← hwd] at hb2
   repeat' (first|refine pa ?_|(refine pb ?_ ?_<;>intro hg)|(refine pz9 ?_;(first|refine Zaa hb2 ?_))|refine po ?_|fail)
   refine aW.loopF rfl (fun q:Nat×Bool×Bool×Bool×Bool×Bool=>[(7,.t (.int .i64 (q.1:Nat))),(4,.t (.bool q.2.2.2.2.2))]) [(6,_),(5,_),(3,_),(1,_)] (fun q=>[(20,1,.row true true 4 (b4E q.2.1 q.2.2.1 q.2.2.2.1 q.2.2.2.2.1))]) [(1,_,_)] (fun q=>q.1≤Zad l∧Scan l r q.1 q.2.1 q.2.2.1 q.2.2.2.1 q.2.2.2.2.1 q.2.2.2.2.2) (fun q=>Zad l - q.1) (0,s1,s2,s3,s4,op) ⟨Nat.zero_le _,hs⟩ (by (exact plei)) ?_
   clear hs
   rintro ⟨c,s1,s2,s3,s4,op⟩ hI
   obtain ⟨hc,hs⟩:c≤Zad l∧Scan l r c s1 s2 s3 s4 op:=hI
   refine pln ?_
   by_cases hcw:c < Zad l
   ·have hX:((l.getD r default).getD (Int.toNat (c:Int)) 0).toNat=Zam l r c:=rfl
    generalize hY:((l.getD r default).getD (Int.toNat (c:Int)) 0).toNat=Y at hX
    have hE:Edge l.length (Zad l) r c↔(r=0∨r + 1=l.length∨c=0∨c + 1=Zad l):=Iff.rfl
    have hOk:OkT (Zam l r c)↔(Zam l r c=35∨Zam l r c=111∨Zam l r c=46∨(49≤Zam l r c∧Zam l r c≤52)):=Iff.rfl
    by_cases t35:Y=35
    ·have hk:=hs.keep hcw (by omega)
     cases op with
     | true =>
      repeat' (first|refine pa ?_|(refine pb ?_ ?_<;>intro hg)|refine po ?_|fail)
      all_goals first|(exfalso;omega)|exact ⟨(c + 1,s1,s2,s3,s4,true),⟨hcw,hk⟩,by show Zad l - (c + 1) < Zad l - c;omega,by (exact ple)⟩
     | false =>
      repeat' (first|refine pa ?_|(refine pb ?_ ?_<;>intro hg)|refine po ?_|fail)
      all_goals rw [hY,decide_eq_true (show ((Y:Nat):Int)=35 by omega)]
      all_goals first|(exfalso;omega)|exact ⟨(c + 1,s1,s2,s3,s4,false),⟨hcw,hk⟩,by show Zad l - (c + 1) < Zad l - c;omega,by (exact ple)⟩
    by_cases he:Edge l.length (Zad l) r c
    ·rw [Zmq hrn hcw he (by omega)]
     rw [hE] at he
     repeat' (first|refine pa ?_|(refine pb ?_ ?_<;>intro hg)|refine po ?_|fail)
     all_goals first|(exfalso;omega)|(refine pfin ?_;exact .inl rfl)
    have he0:=he
    rw [hE] at he
    by_cases hok:OkT (Zam l r c)
    ·rw [hOk] at hok
     by_cases t1:Y=111∨Y=46
     ·have ho:=hs.open_tile hcw (by omega) he0
      rcases t1 with t1|t1<;>cases op
      repeat' (first|refine pa ?_|(refine pb ?_ ?_<;>intro hg)|refine po ?_|fail)
      all_goals try (exfalso;omega)
      all_goals try rw [hY,decide_eq_false (show ¬ ((Y:Nat):Int)=35 by omega)]
      all_goals exact ⟨(c + 1,s1,s2,s3,s4,true),⟨hcw,ho⟩,by show Zad l - (c + 1) < Zad l - c;omega,by (exact ple)⟩
     ·have hdg:49≤Y∧Y≤52:=by omega
      have hd:=hs.dig hcw (by omega) he0
      have hdup:=hs.dup hrn hcw
      repeat' (first|(first|refine pc ?_|(refine pbc ?_ ?_<;>intro hg))|(((first|refine pl ?_|(refine pbl ?_ ?_<;>intro hg)))<;>(first|(first|refine po ?_)|(fail_if_success (show OpS _ _ _ _ _ _))))|fail)
      all_goals try (exfalso;omega)
      rw [hY]
      rcases (show Y=49∨Y=50∨Y=51∨Y=52 by omega) with e|e|e|e
      all_goals subst e
      ·cases hs1:s1 with
       | true =>
        have l4:(b4E true s2 s3 s4).length=4:=rfl
        rw [hdup (.inl ⟨by omega,hs1⟩)]
        rw [show IntKind.u8.wrap (((49:Nat):Int) - 49)=((0:Nat):Int) from rfl]
        repeat' (first|refine pa ?_|(refine pb ?_ ?_<;>intro hg)|refine po ?_|fail)
        all_goals first|(exfalso;omega)|(refine pfin ?_;exact .inl rfl)
       | false =>
        have l4:(b4E false s2 s3 s4).length=4:=rfl
        have hd:=hd (fun _=>hs1) (fun h=>absurd h (by omega)) (fun h=>absurd h (by omega)) (fun h=>absurd h (by omega))
        rw [show IntKind.u8.wrap (((49:Nat):Int) - 49)=((0:Nat):Int) from rfl]
        cases op
        repeat' (first|(first|refine pc ?_|(refine pbc ?_ ?_<;>intro hg))|(((first|refine pl ?_|(refine pbl ?_ ?_<;>intro hg)))<;>(first|(first|refine po ?_)|(fail_if_success (show OpS _ _ _ _ _ _))))|fail)
        all_goals try rw [show IntKind.u8.wrap (((49:Nat):Int) - 49)=((0:Nat):Int) from rfl]
        repeat' (first|refine pa ?_|(refine pb ?_ ?_<;>intro hg)|refine po ?_|fail)
        all_goals try (exfalso;omega)
        all_goals refine ⟨(c + 1,true,s2,s3,s4,true),⟨hcw,?_⟩,by show Zad l - (c + 1) < Zad l - c;omega,by (exact ple)⟩
        all_goals simpa [← hX,hs1] using hd
      ·cases hs2:s2 with
       | true =>
        have l4:(b4E s1 true s3 s4).length=4:=rfl
        rw [hdup (.inr (.inl ⟨by omega,hs2⟩))]
        rw [show IntKind.u8.wrap (((50:Nat):Int) - 49)=((1:Nat):Int) from rfl]
        repeat' (first|refine pa ?_|(refine pb ?_ ?_<;>intro hg)|refine po ?_|fail)
        all_goals first|(exfalso;omega)|(refine pfin ?_;exact .inl rfl)
       | false =>
        have l4:(b4E s1 false s3 s4).length=4:=rfl
        have hd:=hd (fun h=>absurd h (by omega)) (fun _=>hs2) (fun h=>absurd h (by omega)) (fun h=>absurd h (by omega))
        rw [show IntKind.u8.wrap (((50:Nat):Int) - 49)=((1:Nat):Int) from rfl]
        cases op
        repeat' (first|(first|refine pc ?_|(refine pbc ?_ ?_<;>intro hg))|(((first|refine pl ?_|(refine pbl ?_ ?_<;>intro hg)))<;>(first|(first|refine po ?_)|(fail_if_success (show OpS _ _ _ _ _ _))))|fail)
        all_goals try rw [show IntKind.u8.wrap (((50:Nat):Int) - 49)=((1:Nat):Int) from rfl]
        repeat' (first|refine pa ?_|(refine pb ?_ ?_<;>intro hg)|refine po ?_|fail)
        all_goals try (exfalso;omega)
        all_goals refine ⟨(c + 1,s1,true,s3,s4,true),⟨hcw,?_⟩,by show Zad l - (c + 1) < Zad l - c;omega,by (exact ple)⟩
        all_goals simpa [← hX,hs2] using hd
      ·cases hs3:s3 with
       | true =>
        have l4:(b4E s1 s2 true s4).length=4:=rfl
        rw [hdup (.inr (.inr (.inl ⟨by omega,hs3⟩)))]
        rw [show IntKind.u8.wrap (((51:Nat):Int) - 49)=((2:Nat):Int) from rfl]
        repeat' (first|refine pa ?_|(refine pb ?_ ?_<;>intro hg)|refine po ?_|fail)
        all_goals first|(exfalso;omega)|(refine pfin ?_;exact .inl rfl)
       | false =>
        have l4:(b4E s1 s2 false s4).length=4:=rfl
        have hd:=hd (fun h=>absurd h (by omega)) (fun h=>absurd h (by omega)) (fun _=>hs3) (fun h=>absurd h (by omega))
        rw [show IntKind.u8.wrap (((51:Nat):Int) - 49)=((2:Nat):Int) from rfl]
        cases op
        repeat' (first|(first|refine pc ?_|(refine pbc ?_ ?_<;>intro hg))|(((first|refine pl ?_|(refine pbl ?_ ?_<;>intro hg)))<;>(first|(first|refine po ?_)|(fail_if_success (show OpS _ _ _ _ _ _))))|fail)
        all_goals try rw [show IntKind.u8.wrap (((51:Nat):Int) - 49)=((2:Nat):Int) from rfl]
        repeat' (first|refine pa ?_|(refine pb ?_ ?_<;>intro hg)|refine po ?_|fail)
        all_goals try (exfalso;omega)
        all_goals refine ⟨(c + 1,s1,s2,true,s4,true),⟨hcw,?_⟩,by show Zad l - (c + 1) < Zad l - c;omega,by (exact ple)⟩
        all_goals simpa [← hX,hs3] using hd
      ·cases hs4:s4 with
       | true =>
        have l4:(b4E s1 s2 s3 true).length=4:=rfl
        rw [hdup (.inr (.inr (.inr ⟨by omega,hs4⟩)))]
        rw [show IntKind.u8.wrap (((52:Nat):Int) - 49)=((3:Nat):Int) from rfl]
        repeat' (first|refine pa ?_|(refine pb ?_ ?_<;>intro hg)|refine po ?_|fail)
        all_goals first|(exfalso;omega)|(refine pfin ?_;exact .inl rfl)
       | false =>
        have l4:(b4E s1 s2 s3 false).length=4:=rfl
        have hd:=hd (fun h=>absurd h (by omega)) (fun h=>absurd h (by omega)) (fun h=>absurd h (by omega)) (fun _=>hs4)
        rw [show IntKind.u8.wrap (((52:Nat):Int) - 49)=((3:Nat):Int) from rfl]
        cases op
        repeat' (first|(first|refine pc ?_|(refine pbc ?_ ?_<;>intro hg))|(((first|refine pl ?_|(refine pbl ?_ ?_<;>intro hg)))<;>(first|(first|refine po ?_)|(fail_if_success (show OpS _ _ _ _ _ _))))|fail)
        all_goals try rw [show IntKind.u8.wrap (((52:Nat):Int) - 49)=((3:Nat):Int) from rfl]
        repeat' (first|refine pa ?_|(refine pb ?_ ?_<;>intro hg)|refine po ?_|fail)
        all_goals try (exfalso;omega)
        all_goals refine ⟨(c + 1,s1,s2,s3,true,true),⟨hcw,?_⟩,by show Zad l - (c + 1) < Zad l - c;omega,by (exact ple)⟩
        all_goals simpa [← hX,hs4] using hd
    ·rw [Zmr hrn hcw hok]
     rw [hOk] at hok
     repeat' (first|refine pa ?_|(refine pb ?_ ?_<;>intro hg)|refine po ?_|fail)
     all_goals first|(exfalso;omega)|(refine pfin ?_;exact .inl rfl)
   ·obtain rfl:c=Zad l:=by omega
    repeat' (first|refine pa ?_|(refine pb ?_ ?_<;>intro hg)|refine po ?_|fail)
    exact ⟨(r + 1,s1,s2,s3,s4,op),⟨hrn,hs.row hrow,fun _=>by omega⟩,by show l.length - (r + 1) < l.length - r;omega,by (exact ple)⟩
  ·rw [Zod hrn hrow]
   repeat' (first|refine pa ?_|(refine pb ?_ ?_<;>intro hg)|refine po ?_|fail)
   all_goals first|(exfalso;omega)|(refine pfin ?_;exact .inl rfl)
 ·obtain rfl:r=l.length:=by omega
  have hw2:=hwr (by omega)
  rw [hs.done (by omega) (by omega) hw2.1 hw2.2]
  repeat' (first|refine pa ?_|(refine pb ?_ ?_<;>intro hg)|refine po ?_|fail)
  exact pfr
end Go.Proofs.YthfaongbpdnlnaaGreat
