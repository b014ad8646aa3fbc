/- What is proved: contracts on levels, program and reference alike: when one is valid.
   Conditions: none. -/
import Derived.Test.YthfaongbpdnlnaaGreatV30
namespace Go.Proofs.YthfaongbpdnlnaaGreat
set_option maxHeartbeats 4000000
set_option maxRecDepth 20000
set_option linter.unusedSimpArgs false
set_option linter.unusedVariables false
open Go.RowKit Ab
abbrev b4E (a b c d:Bool):List (List T):=[[.bool a],[.bool b],[.bool c],[.bool d]]
theorem Scan.keep {l:Lv} {r c:Nat} {s1 s2 s3 s4 op:Bool} (h:Scan l r c s1 s2 s3 s4 op) (hc:c < Zad l) (ht:Zam l r c=35):Scan l r (c + 1) s1 s2 s3 s4 op:=by
 have:=h.next hc (.inl ht) (fun _=>ht) (by omega) (by omega) (by omega) (by omega)
 simpa [ht] using this
theorem Scan.open_tile {l:Lv} {r c:Nat} {s1 s2 s3 s4 op:Bool} (h:Scan l r c s1 s2 s3 s4 op) (hc:c < Zad l) (ht:Zam l r c=111∨Zam l r c=46) (he:¬ Edge l.length (Zad l) r c):Scan l r (c + 1) s1 s2 s3 s4 true:=by
 have:=h.next hc (by unfold OkT;omega) (fun h=>absurd h he) (by omega) (by omega) (by omega) (by omega)
 rcases ht with e|e<;>simpa [e] using this
theorem Scan.dig {l:Lv} {r c:Nat} {s1 s2 s3 s4 op:Bool} (h:Scan l r c s1 s2 s3 s4 op) (hc:c < Zad l) (ht:49≤Zam l r c∧Zam l r c≤52) (he:¬ Edge l.length (Zad l) r c)
  (h1:Zam l r c=49→s1=false) (h2:Zam l r c=50→s2=false) (h3:Zam l r c=51→s3=false) (h4:Zam l r c=52→s4=false) :
  Scan l r (c + 1) (s1 || decide (Zam l r c=49)) (s2 || decide (Zam l r c=50)) (s3 || decide (Zam l r c=51)) (s4 || decide (Zam l r c=52)) true:=by
 have:=h.next hc (by unfold OkT;omega) (fun h=>absurd h he) h1 h2 h3 h4
 have e:decide (Zam l r c ≠ 35)=true:=decide_eq_true (by omega)
 rw [e,Bool.or_true] at this
 exact this
theorem Zbz (l:Lv):AC Tryz.prog 145 [.agg [.t (.lst true 9 (Zai l))]] (.t (.bool (Zbc l))):=by
 have hll:=Zbs l
 have hwd:(l.getD 0 default).length=Zad l:=rfl
 refine AC.go Tryz.func145 Tryz.ntmps145 fun B W hr=>?_
 by_cases hn:l.length < 3∨12 < l.length
 ·rw [Zg1 (by omega)]
  repeat' (first|refine pa ?_|(refine pb ?_ ?_<;>intro hg)|refine po ?_|fail)
  all_goals first|(exfalso;omega)|(refine pfin ?_;exact .inl rfl)
 by_cases hw:Zad l < 4∨20 < Zad l
 ·rw [Zg1 (by omega)]
  repeat' (first|refine pa ?_|(refine pb ?_ ?_<;>intro hg)|refine pxk0 ?_|refine po ?_|fail)
  all_goals first|(exfalso;omega)|(refine pfin ?_;exact .inl rfl)
 repeat' (first|refine pa ?_|(refine pb ?_ ?_<;>intro hg)|refine pxk0 ?_|refine po ?_|fail)
 refine aW.loopF rfl (fun q:Nat×Bool×Bool×Bool×Bool×Bool=>[(35,.t (.int .i64 (q.1:Nat))),(5,.t (.bool q.2.2.2.2.2))]) [(34,_),(33,_),(4,_),(3,_),(1,_)] (fun q=>[(4,1,.box 196 [.t (.bool false),.t (.bool q.2.1),.t (.bool q.2.2.1),.t (.bool q.2.2.2.1),.t (.bool q.2.2.2.2.1)])]) [(1,_,_)] (fun q=>q.1≤l.length∧Scan l q.1 0 q.2.1 q.2.2.1 q.2.2.2.1 q.2.2.2.2.1 q.2.2.2.2.2) (fun q=>l.length - q.1) (0,false,false,false,false,false) ⟨Nat.zero_le _,Scan.start l⟩ (by (exact plei)) ?_
 rintro ⟨r,s1,s2,s3,s4,op⟩ hI
 obtain ⟨hr,hs⟩:r≤l.length∧Scan l r 0 s1 s2 s3 s4 op:=hI
 refine pln ?_
 by_cases hrn:r < l.length
 ·by_cases hrow:(l.getD r default).length=Zad l
  ·repeat' (first|refine pa ?_|(refine pb ?_ ?_<;>intro hg)|refine po ?_|fail)
   refine aW.loopF rfl (fun q:Nat×Bool×Bool×Bool×Bool×Bool=>[(8,.t (.int .i64 (q.1:Nat))),(5,.t (.bool q.2.2.2.2.2))]) [(35,_),(34,_),(33,_),(7,_),(6,_),(4,_),(3,_),(1,_)] (fun q=>[(4,1,.box 196 [.t (.bool false),.t (.bool q.2.1),.t (.bool q.2.2.1),.t (.bool q.2.2.2.1),.t (.bool q.2.2.2.2.1)])]) [(1,_,_)] (fun q=>q.1≤Zad l∧Scan l r q.1 q.2.1 q.2.2.1 q.2.2.2.1 q.2.2.2.2.1 q.2.2.2.2.2) (fun q=>Zad l - q.1) (0,s1,s2,s3,s4,op) ⟨Nat.zero_le _,hs⟩ (by (exact plei)) ?_
   clear hs
   rintro ⟨c,s1,s2,s3,s4,op⟩ hI
   obtain ⟨hc,hs⟩:c≤Zad l∧Scan l r c s1 s2 s3 s4 op:=hI
   refine pln ?_
   by_cases hcw:c < Zad l
   ·have hX:((l.getD r default).getD (Int.toNat (c:Int)) 0).toNat=Zam l r c:=rfl
    generalize hY:((l.getD r default).getD (Int.toNat (c:Int)) 0).toNat=Y at hX
    have hE:Edge l.length (Zad l) r c↔(r=0∨r + 1=l.length∨c=0∨c + 1=Zad l):=Iff.rfl
    have hOk:OkT (Zam l r c)↔(Zam l r c=35∨Zam l r c=111∨Zam l r c=46∨(49≤Zam l r c∧Zam l r c≤52)):=Iff.rfl
    by_cases t35:Y=35
    ·repeat' (first|refine pa ?_|(refine pb ?_ ?_<;>intro hg)|refine po ?_|fail)
     all_goals exact ⟨(c + 1,s1,s2,s3,s4,op),⟨hcw,hs.keep hcw (by omega)⟩,by show Zad l - (c + 1) < Zad l - c;omega,by (exact ple)⟩
    by_cases he:Edge l.length (Zad l) r c
    ·rw [Zmq hrn hcw he (by omega)]
     rw [hE] at he
     repeat' (first|refine pa ?_|(refine pb ?_ ?_<;>intro hg)|refine po ?_|fail)
     all_goals first|(exfalso;omega)|(refine pfin ?_;exact .inl rfl)
    have he0:=he
    rw [hE] at he
    by_cases hok:OkT (Zam l r c)
    ·rw [hOk] at hok
     by_cases t1:Y=111∨Y=46
     ·have ho:=hs.open_tile hcw (by omega) he0
      repeat' (first|refine pa ?_|(refine pb ?_ ?_<;>intro hg)|refine po ?_|fail)
      all_goals first|(exfalso;omega)|exact ⟨(c + 1,s1,s2,s3,s4,true),⟨hcw,ho⟩,by show Zad l - (c + 1) < Zad l - c;omega,by (exact ple)⟩
     ·have hdg:49≤Y∧Y≤52:=by omega
      have hd:=hs.dig hcw (by omega) he0
      have hdup:=hs.dup hrn hcw
      repeat' (first|(first|refine pc ?_|(refine pbc ?_ ?_<;>intro hg))|(((first|refine pl ?_|(refine pbl ?_ ?_<;>intro hg)))<;>(first|(first|refine po ?_)|(fail_if_success (show OpS _ _ _ _ _ _))))|fail)
      all_goals try (exfalso;omega)
      rw [hY]
      rcases (show Y=49∨Y=50∨Y=51∨Y=52 by omega) with e|e|e|e
      all_goals subst e
      ·cases hs1:s1 with
       | true =>
        rw [hdup (.inl ⟨by omega,hs1⟩)]
        rw [show IntKind.u8.wrap (((49:Nat):Int) - 48)=((1:Nat):Int) from rfl]
        repeat' (first|refine pa ?_|(refine pb ?_ ?_<;>intro hg)|refine ZgY ?_|refine po ?_|fail)
        all_goals first|(exfalso;omega)|(refine pfin ?_;exact .inl rfl)
       | false =>
        rw [show IntKind.u8.wrap (((49:Nat):Int) - 48)=((1:Nat):Int) from rfl]
        repeat' (first|(first|refine pc ?_|(refine pbc ?_ ?_<;>intro hg))|(((first|refine pl ?_|(refine pbl ?_ ?_<;>intro hg)))<;>(first|(first|refine ZgY ?_|refine po ?_)|(fail_if_success (show OpS _ _ _ _ _ _))))|fail)
        all_goals try (exfalso;omega)
        rw [show IntKind.u8.wrap (((49:Nat):Int) - 48)=((1:Nat):Int) from rfl]
        repeat' (first|refine pa ?_|(refine pb ?_ ?_<;>intro hg)|refine ZgY ?_|refine po ?_|fail)
        refine ⟨(c + 1,true,s2,s3,s4,true),⟨hcw,?_⟩,by show Zad l - (c + 1) < Zad l - c;omega,by (exact ple)⟩
        have hd:=hd (fun _=>hs1) (fun h=>absurd h (by omega)) (fun h=>absurd h (by omega)) (fun h=>absurd h (by omega))
        simpa [← hX,hs1] using hd
      ·cases hs2:s2 with
       | true =>
        rw [hdup (.inr (.inl ⟨by omega,hs2⟩))]
        rw [show IntKind.u8.wrap (((50:Nat):Int) - 48)=((2:Nat):Int) from rfl]
        repeat' (first|refine pa ?_|(refine pb ?_ ?_<;>intro hg)|refine ZgY ?_|refine po ?_|fail)
        all_goals first|(exfalso;omega)|(refine pfin ?_;exact .inl rfl)
       | false =>
        rw [show IntKind.u8.wrap (((50:Nat):Int) - 48)=((2:Nat):Int) from rfl]
        repeat' (first|(first|refine pc ?_|(refine pbc ?_ ?_<;>intro hg))|(((first|refine pl ?_|(refine pbl ?_ ?_<;>intro hg)))<;>(first|(first|refine ZgY ?_|refine po ?_)|(fail_if_success (show OpS _ _ _ _ _ _))))|fail)
        all_goals try (exfalso;omega)
        rw [show IntKind.u8.wrap (((50:Nat):Int) - 48)=((2:Nat):Int) from rfl]
        repeat' (first|refine pa ?_|(refine pb ?_ ?_<;>intro hg)|refine ZgY ?_|refine po ?_|fail)
        refine ⟨(c + 1,s1,true,s3,s4,true),⟨hcw,?_⟩,by show Zad l - (c + 1) < Zad l - c;omega,by (exact ple)⟩
        have hd:=hd (fun h=>absurd h (by omega)) (fun _=>hs2) (fun h=>absurd h (by omega)) (fun h=>absurd h (by omega))
        simpa [← hX,hs2] using hd
      ·cases hs3:s3 with
       | true =>
        rw [hdup (.inr (.inr (.inl ⟨by omega,hs3⟩)))]
        rw [show IntKind.u8.wrap (((51:Nat):Int) - 48)=((3:Nat):Int) from rfl]
        repeat' (first|refine pa ?_|(refine pb ?_ ?_<;>intro hg)|refine ZgY ?_|refine po ?_|fail)
        all_goals first|(exfalso;omega)|(refine pfin ?_;exact .inl rfl)
       | false =>
        rw [show IntKind.u8.wrap (((51:Nat):Int) - 48)=((3:Nat):Int) from rfl]
        repeat' (first|(first|refine pc ?_|(refine pbc ?_ ?_<;>intro hg))|(((first|refine pl ?_|(refine pbl ?_ ?_<;>intro hg)))<;>(first|(first|refine ZgY ?_|refine po ?_)|(fail_if_success (show OpS _ _ _ _ _ _))))|fail)
        all_goals try (exfalso;omega)
        rw [show IntKind.u8.wrap (((51:Nat):Int) - 48)=((3:Nat):Int) from rfl]
        repeat' (first|refine pa ?_|(refine pb ?_ ?_<;>intro hg)|refine ZgY ?_|refine po ?_|fail)
        refine ⟨(c + 1,s1,s2,true,s4,true),⟨hcw,?_⟩,by show Zad l - (c + 1) < Zad l - c;omega,by (exact ple)⟩
        have hd:=hd (fun h=>absurd h (by omega)) (fun h=>absurd h (by omega)) (fun _=>hs3) (fun h=>absurd h (by omega))
        simpa [← hX,hs3] using hd
      ·cases hs4:s4 with
       | true =>
        rw [hdup (.inr (.inr (.inr ⟨by omega,hs4⟩)))]
        rw [show IntKind.u8.wrap (((52:Nat):Int) - 48)=((4:Nat):Int) from rfl]
        repeat' (first|refine pa ?_|(refine pb ?_ ?_<;>intro hg)|refine ZgY ?_|refine po ?_|fail)
        all_goals first|(exfalso;omega)|(refine pfin ?_;exact .inl rfl)
       | false =>
        rw [show IntKind.u8.wrap (((52:Nat):Int) - 48)=((4:Nat):Int) from rfl]
        repeat' (first|(first|refine pc ?_|(refine pbc ?_ ?_<;>intro hg))|(((first|refine pl ?_|(refine pbl ?_ ?_<;>intro hg)))<;>(first|(first|refine ZgY ?_|refine po ?_)|(fail_if_success (show OpS _ _ _ _ _ _))))|fail)
        all_goals try (exfalso;omega)
        rw [show IntKind.u8.wrap (((52:Nat):Int) - 48)=((4:Nat):Int) from rfl]
        repeat' (first|refine pa ?_|(refine pb ?_ ?_<;>intro hg)|refine ZgY ?_|refine po ?_|fail)
        refine ⟨(c + 1,s1,s2,s3,true,true),⟨hcw,?_⟩,by show Zad l - (c + 1) < Zad l - c;omega,by (exact ple)⟩
        have hd:=hd (fun h=>absurd h (by omega)) (fun h=>absurd h (by omega)) (fun h=>absurd h (by omega)) (fun _=>hs4)
        simpa [← hX,hs4] using hd
    ·rw [Zmr hrn hcw hok]
     rw [hOk] at hok
     repeat' (first|refine pa ?_|(refine pb ?_ ?_<;>intro hg)|refine po ?_|fail)
     all_goals first|(exfalso;omega)|(refine pfin ?_;exact .inl rfl)
   ·obtain rfl:c=Zad l:=by omega
    repeat' (first|refine pa ?_|(refine pb ?_ ?_<;>intro hg)|refine po ?_|fail)
    exact ⟨(r + 1,s1,s2,s3,s4,op),⟨hrn,hs.row hrow⟩,by show l.length - (r + 1) < l.length - r;omega,by (exact ple)⟩
  ·rw [Zod hrn hrow]
   repeat' (first|refine pa ?_|(refine pb ?_ ?_<;>intro hg)|refine po ?_|fail)
   all_goals first|(exfalso;omega)|(refine pfin ?_;exact .inl rfl)
 ·obtain rfl:r=l.length:=by omega
  rw [hs.done (by omega) (by omega) (by omega) (by omega)]
  repeat' (first|refine pa ?_|(refine pb ?_ ?_<;>intro hg)|refine po ?_|fail)
  exact pfr
end Go.Proofs.YthfaongbpdnlnaaGreat
