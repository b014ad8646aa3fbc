/- What is proved: contracts on where players start, program and reference alike.
   Conditions: none. -/
import Derived.Test.YthfaongbpdnlnaaGreatT18
import Derived.Test.YthfaongbpdnlnaaGreatT50s
namespace Go.Proofs.YthfaongbpdnlnaaGreat
set_option maxHeartbeats 4000000
set_option maxRecDepth 20000
set_option linter.unusedSimpArgs false
set_option linter.unusedVariables false
open Go.RowKit Ab
def FstP (l:Lv) (r c:Nat) (x y:Int):Prop:=(x=-1∧y=-1∧∀ p q,Dn (Zad l) r c p q→Zam l p q=35) ∨
 ∃ r0 c0:Nat,Dn (Zad l) r c r0 c0∧Zam l r0 c0 ≠ 35∧(∀ p q,Dn (Zad l) r0 c0 p q→Zam l p q=35)∧x=16 * (c0:Int) + 2∧y=16 * (r0:Int) + 2
def NoD (l:Lv) (m:Int) (r c:Nat):Prop:=∀ p q,Dn (Zad l) r c p q→(Zam l p q:Int) ≠ 49 + m
structure Seek (l:Lv) (m:Int) (r c:Nat) (x y:Int):Prop where
 fst:FstP l r c x y
 no:NoD l m r c
section
variable {l:Lv} {m x y:Int} {r c:Nat}
theorem Seek.start:Seek l m 0 0 (-1) (-1):=⟨.inl ⟨rfl,rfl,fun p q h=>absurd h Zgz⟩,fun p q h=>absurd h Zgz⟩
theorem Seek.row (h:Seek l m r (Zad l) x y):Seek l m (r + 1) 0 x y:=by
 refine ⟨?_,fun p q hd=>h.no p q (Zmv.1 hd)⟩
 rcases h.fst with ⟨h1,h2,h3⟩|⟨r0,c0,h1,h2⟩
 ·exact .inl ⟨h1,h2,fun p q hd=>h3 p q (Zmv.1 hd)⟩
 ·exact .inr ⟨r0,c0,Zmv.2 h1,h2⟩
theorem Seek.nod (h:Seek l m r c x y) (hc:c < Zad l) (hd:(Zam l r c:Int) ≠ 49 + m):NoD l m r (c + 1):=fun p q hp=>by
 rcases (ZcE hc).1 hp with h1|⟨rfl,rfl⟩
 ·exact h.no p q h1
 ·exact hd
theorem Seek.wall (h:Seek l m r c x y) (hc:c < Zad l) (hd:(Zam l r c:Int) ≠ 49 + m) (ht:Zam l r c=35):Seek l m r (c + 1) x y:=by
 refine ⟨?_,h.nod hc hd⟩
 rcases h.fst with ⟨h1,h2,h3⟩|⟨r0,c0,h1,h2⟩
 ·refine .inl ⟨h1,h2,fun p q hp=>?_⟩
  rcases (ZcE hc).1 hp with h4|⟨rfl,rfl⟩
  ·exact h3 p q h4
  ·exact ht
 ·exact .inr ⟨r0,c0,(ZcE hc).2 (.inl h1),h2⟩
theorem Seek.keep (h:Seek l m r c x y) (hc:c < Zad l) (hd:(Zam l r c:Int) ≠ 49 + m) (hx:0≤x):Seek l m r (c + 1) x y:=by
 refine ⟨?_,h.nod hc hd⟩
 rcases h.fst with ⟨h1,h2,h3⟩|⟨r0,c0,h1,h2⟩
 ·omega
 ·exact .inr ⟨r0,c0,(ZcE hc).2 (.inl h1),h2⟩
theorem Seek.new (h:Seek l m r c x y) (hc:c < Zad l) (hd:(Zam l r c:Int) ≠ 49 + m) (hx:x < 0) (ht:Zam l r c ≠ 35):Seek l m r (c + 1) (16 * (c:Int) + 2) (16 * (r:Int) + 2):=by
 refine ⟨?_,h.nod hc hd⟩
 rcases h.fst with ⟨h1,h2,h3⟩|⟨r0,c0,h1,h2,h3,h4,h5⟩
 ·exact .inr ⟨r,c,(ZcE hc).2 (.inr ⟨rfl,rfl⟩),ht,h3,rfl,rfl⟩
 ·omega
theorem Seek.done (h:Seek l m l.length 0 x y) (hl:ZaZ l) (h0:0≤m) (h3:m≤3):ZcV l m=(x,y):=by
 refine Zh0 hl h0 h3 (.inr ⟨fun r c hr hc=>h.no r c ⟨.inl hr,hc⟩,?_⟩)
 rcases h.fst with ⟨h1,h2,h4⟩|⟨r0,c0,h1,h2,h4,h5,h6⟩
 ·obtain ⟨r,c,g1,g2,g3⟩:=hl.open_
  exact absurd (h4 r c ⟨.inl g1,g2⟩) g3
 ·exact ⟨r0,c0,by unfold Dn at h1;omega,h1.2,h2,h4,by rw [h5,h6]⟩
theorem Seek.found (hl:ZaZ l) (h0:0≤m) (h3:m≤3) (hr:r < l.length) (hc:c < Zad l) (hd:(Zam l r c:Int)=49 + m):ZcV l m=(16 * (c:Int) + 2,16 * (r:Int) + 2):=Zh0 hl h0 h3 (.inl ⟨r,c,hr,hc,hd,rfl⟩)
theorem Seek.neg (h:Seek l m r c x y):x=-1∨0≤x:=by
 rcases h.fst with ⟨h1,h2,h4⟩|⟨r0,c0,h1,h2,h4,h5,h6⟩<;>omega
end
theorem Zlq (l:Lv) (m:Int):AC Tryz.prog 206 [.agg [.t (.lst true 9 (Zai l))],.t (.int .i64 m)] (.tup [.t (.int .i64 (ZcV l m).1),.t (.int .i64 (ZcV l m).2)]):=by
 have hL:=Zbz l
 have hll:=Zbs l
 by_cases hm:0≤m∧m≤3
 case neg =>
  rw [Zgh fun h=>hm h.2]
  refine AC.go Tryz.func206 Tryz.ntmps206 fun B W hr=>?_
  repeat' (first|refine pa ?_|(refine pb ?_ ?_<;>intro hg)|(refine pz9 ?_;(first|refine Zaa hL ?_))|refine po ?_|fail)
  all_goals first|(exfalso;omega)|(refine pfin ?_;(exact pgiv))
 cases hl:Zbc l with
 | false =>
  rw [hl] at hL
  rw [Zgh fun h=>by have:=ZaU.2 h.1;rw [hl] at this;cases this]
  refine AC.go Tryz.func206 Tryz.ntmps206 fun B W hr=>?_
  repeat' (first|refine pa ?_|(refine pb ?_ ?_<;>intro hg)|(refine pz9 ?_;(first|refine Zaa hL ?_))|refine po ?_|fail)
  all_goals first|(exfalso;omega)|(refine pfin ?_;(exact pgiv))
 | true =>
  rw [hl] at hL
  have hl:=ZaU.1 hl
  have g1:=hl.n3;have g2:=hl.n12;have g3:=hl.w4;have g4:=hl.w20
  have hw:IntKind.u8.wrap (49 + m)=49 + m:=by
   have:m=0∨m=1∨m=2∨m=3:=by omega
   rcases this with rfl|rfl|rfl|rfl<;>rfl
  refine AC.go Tryz.func206 Tryz.ntmps206 fun B W hr=>?_
  repeat' (first|refine pa ?_|(refine pb ?_ ?_<;>intro hg)|(refine pz9 ?_;(first|refine Zaa hL ?_))|refine po ?_|fail)
  refine aW.loopF rfl (fun q:Nat×Int×Int=>[(25,.t (.int .i64 (q.1:Nat))),(6,.t (.int .i64 q.2.1)),(7,.t (.int .i64 q.2.2))]) [(24,_),(23,_),(2,_),(1,_)] (fun q=>[]) [(2,_,_)] (fun q=>q.1≤l.length∧Seek l m q.1 0 q.2.1 q.2.2) (fun q=>l.length - q.1) (0,-1,-1) ⟨Nat.zero_le _,Seek.start⟩ (by (exact plei)) ?_
  rintro ⟨r,x,y⟩ hI
  obtain ⟨hr,hS⟩:r≤l.length∧Seek l m r 0 x y:=hI
  refine pln ?_
  by_cases hrn:r < l.length
  ·have hrow:(l.getD r default).length=Zad l:=hl.rows r hrn
   repeat' (first|refine pa ?_|(refine pb ?_ ?_<;>intro hg)|refine po ?_|fail)
   refine aW.loopF rfl (fun q:Nat×Int×Int=>[(10,.t (.int .i64 (q.1:Nat))),(6,.t (.int .i64 q.2.1)),(7,.t (.int .i64 q.2.2))]) [(25,_),(24,_),(23,_),(8,_),(9,_),(2,_),(1,_)] (fun q=>[]) [(2,_,_)] (fun q=>q.1≤Zad l∧Seek l m r q.1 q.2.1 q.2.2) (fun q=>Zad l - q.1) (0,x,y) ⟨Nat.zero_le _,hS⟩ (by (exact plei)) ?_
   rintro ⟨c,x,y⟩ hI
   obtain ⟨hc,hS⟩:c≤Zad l∧Seek l m r c x y:=hI
   refine pln ?_
   by_cases hcn:c < Zad l
   ·have hX:((l.getD r default).getD (Int.toNat (c:Int)) 0).toNat=Zam l r c:=rfl
    by_cases hd:(Zam l r c:Int)=49 + m
    ·rw [Seek.found hl hm.1 hm.2 hrn hcn hd]
     repeat' (first|refine pa ?_|(refine pb ?_ ?_<;>intro hg)|refine po ?_|fail)
     refine pfin ?_
     exact ⟨.inl (congrArg (T.int .i64) (by show _=16 * (c:Int) + 2;omega)),.inl (congrArg (T.int .i64) (by show _=16 * (r:Int) + 2;omega)),trivial⟩
    ·by_cases ht:Zam l r c=35
     ·repeat' (first|refine pa ?_|(refine pb ?_ ?_<;>intro hg)|refine po ?_|fail)
      exact ⟨(c + 1,x,y),⟨hcn,hS.wall hcn hd ht⟩,by show Zad l - (c + 1) < Zad l - c;omega,by (exact ple)⟩
     ·rcases hS.neg with hx|hx
      ·have hx:x < 0:=by omega
       repeat' (first|refine pa ?_|(refine pb ?_ ?_<;>intro hg)|refine po ?_|fail)
       exact ⟨(c + 1,16 * (c:Int) + 2,16 * (r:Int) + 2),⟨hcn,hS.new hcn hd hx ht⟩,by show Zad l - (c + 1) < Zad l - c;omega,by rw [Int.mul_comm 16,Int.mul_comm 16];(exact ple)⟩
      ·repeat' (first|refine pa ?_|(refine pb ?_ ?_<;>intro hg)|refine po ?_|fail)
       exact ⟨(c + 1,x,y),⟨hcn,hS.keep hcn hd hx⟩,by show Zad l - (c + 1) < Zad l - c;omega,by (exact ple)⟩
   ·obtain rfl:c=Zad l:=by omega
    repeat' (first|refine pa ?_|(refine pb ?_ ?_<;>intro hg)|refine po ?_|fail)
    exact ⟨(r + 1,x,y),⟨hrn,hS.row⟩,by show l.length - (r + 1) < l.length - r;omega,by (exact ple)⟩
  ·obtain rfl:r=l.length:=by omega
   rw [hS.done hl hm.1 hm.2]
   repeat' (first|refine pa ?_|(refine pb ?_ ?_<;>intro hg)|refine po ?_|fail)
   exact pfg
theorem ZlK (l:Lv) (m:Int):AC Tryz.prog 204 [.agg [.t (.lst true 9 (Zai l))],.t (.int .i64 m)] (.tup [.t (.int .i64 (ZcV l m).1),.t (.int .i64 (ZcV l m).2)]):=by
 have hL:=Zfs l
 have hll:=Zbs l
 have hb:=Zah m 0 3
 cases hl:Zbc l with
 | false =>
  rw [hl] at hL
  rw [Zgh fun h=>by have:=ZaU.2 h.1;rw [hl] at this;cases this]
  refine AC.go Tryz.func204 Tryz.ntmps204 fun B W hr=>?_
  repeat' (first|refine pa ?_|(refine pb ?_ ?_<;>intro hg)|(refine pz9 ?_;(first|refine Zaa hL ?_|refine Zaa hb ?_))|refine po ?_|fail)
  all_goals first|(exfalso;omega)|(refine pfin ?_;(exact pgiv))
 | true =>
  rw [hl] at hL
  have hl:=ZaU.1 hl
  by_cases hm:0≤m∧m≤3
  case neg =>
   rw [show inR m 0 3=false by rw [Bool.eq_false_iff,Ne,Zae];exact hm] at hb
   rw [Zgh fun h=>hm h.2]
   refine AC.go Tryz.func204 Tryz.ntmps204 fun B W hr=>?_
   repeat' (first|refine pa ?_|(refine pb ?_ ?_<;>intro hg)|(refine pz9 ?_;(first|refine Zaa hL ?_|refine Zaa hb ?_))|refine po ?_|fail)
   all_goals first|(exfalso;omega)|(refine pfin ?_;(exact pgiv))
  rw [Zae.2 hm] at hb
  have g1:=hl.n3;have g2:=hl.n12;have g3:=hl.w4;have g4:=hl.w20
  refine AC.go Tryz.func204 Tryz.ntmps204 fun B W hr=>?_
  repeat' (first|refine pa ?_|(refine pb ?_ ?_<;>intro hg)|(refine pz9 ?_;(first|refine Zaa hL ?_|refine Zaa hb ?_))|refine po ?_|fail)
  refine aW.loopF rfl (fun q:Nat×Int×Int=>[(8,.t (.int .i64 (q.1:Nat))),(6,.t (.int .i64 q.2.1)),(7,.t (.int .i64 q.2.2))]) [(2,_),(1,_)] (fun q=>[]) [(2,_,_)] (fun q=>q.1≤l.length∧Seek l m q.1 0 q.2.1 q.2.2) (fun q=>l.length - q.1) (0,-1,-1) ⟨Nat.zero_le _,Seek.start⟩ (by (exact plei)) ?_
  rintro ⟨r,x,y⟩ hI
  obtain ⟨hr,hS⟩:r≤l.length∧Seek l m r 0 x y:=hI
  refine pln ?_
  by_cases hrn:r < l.length
  ·have hrow:(l.getD r default).length=Zad l:=hl.rows r hrn
   repeat' (first|refine pa ?_|(refine pb ?_ ?_<;>intro hg)|refine po ?_|fail)
   refine aW.loopF rfl (fun q:Nat×Int×Int=>[(9,.t (.int .i64 (q.1:Nat))),(6,.t (.int .i64 q.2.1)),(7,.t (.int .i64 q.2.2))]) [(8,_),(2,_),(1,_)] (fun q=>[]) [(2,_,_)] (fun q=>q.1≤Zad l∧Seek l m r q.1 q.2.1 q.2.2) (fun q=>Zad l - q.1) (0,x,y) ⟨Nat.zero_le _,hS⟩ (by (exact plei)) ?_
   rintro ⟨c,x,y⟩ hI
   obtain ⟨hc,hS⟩:c≤Zad l∧Seek l m r c x y:=hI
   refine pln ?_
   by_cases hcn:c < Zad l
   ·have hX:((l.getD r default).getD (Int.toNat (c:Int)) 0).toNat=Zam l r c:=rfl
    have hok:=hl.tiles r c hrn hcn
    have h111:Zam l r c≤111:=by unfold OkT at hok;omega
    have hw:IntKind.i64.wrap (((l.getD r default).getD (Int.toNat (c:Int)) 0).toNat:Int)=(Zam l r c:Int):=by
     rw [hX]
     rcases hok with e|e|e|e
     ·rw [e];rfl
     ·rw [e];rfl
     ·rw [e];rfl
     ·have:Zam l r c=49∨Zam l r c=50∨Zam l r c=51∨Zam l r c=52:=by omega
      rcases this with e|e|e|e<;>rw [e]<;>rfl
    by_cases hd:(Zam l r c:Int)=49 + m
    ·rw [Seek.found hl hm.1 hm.2 hrn hcn hd]
     by_cases hx:x < 0
     ·repeat' (first|refine pa ?_|(refine pb ?_ ?_<;>intro hg)|refine po ?_|fail)
      all_goals first|(exfalso;omega)|(refine pfin ?_;(exact pgiv))
     ·repeat' (first|refine pa ?_|(refine pb ?_ ?_<;>intro hg)|refine po ?_|fail)
      all_goals first|(exfalso;omega)|(refine pfin ?_;(exact pgiv))
    ·by_cases ht:Zam l r c=35
     ·repeat' (first|refine pa ?_|(refine pb ?_ ?_<;>intro hg)|refine po ?_|fail)
      exact ⟨(c + 1,x,y),⟨hcn,hS.wall hcn hd ht⟩,by show Zad l - (c + 1) < Zad l - c;omega,by (exact ple)⟩
     ·rcases hS.neg with hx|hx
      ·have hx:x < 0:=by omega
       repeat' (first|refine pa ?_|(refine pb ?_ ?_<;>intro hg)|refine po ?_|fail)
       exact ⟨(c + 1,16 * (c:Int) + 2,16 * (r:Int) + 2),⟨hcn,hS.new hcn hd hx ht⟩,by show Zad l - (c + 1) < Zad l - c;omega,by (exact ple)⟩
      ·repeat' (first|refine pa ?_|(refine pb ?_ ?_<;>intro hg)|refine po ?_|fail)
       exact ⟨(c + 1,x,y),⟨hcn,hS.keep hcn hd hx⟩,by show Zad l - (c + 1) < Zad l - c;omega,by (exact ple)⟩
   ·obtain rfl:c=Zad l:=by omega
    repeat' (first|refine pa ?_|(refine pb ?_ ?_<;>intro hg)|refine po ?_|fail)
    exact ⟨(r + 1,x,y),⟨hrn,hS.row⟩,by show l.length - (r + 1) < l.length - r;omega,by (exact ple)⟩
  ·obtain rfl:r=l.length:=by omega
   rw [hS.done hl hm.1 hm.2]
   repeat' (first|refine pa ?_|(refine pb ?_ ?_<;>intro hg)|refine po ?_|fail)
   exact pfg
theorem Zey (l:Lv) (k:Int):AC Tryz.prog 147 [.agg [.t (.lst true 9 (Zai l))],.t (.int .i64 k)] (.agg [.t (.int .i64 0),.t (.int .i64 k),.t (.int .i64 (ZcV l k).1),.t (.int .i64 (ZcV l k).2),.t (.int .i64 0),.t (.int .i64 0),.t (.int .i64 1),.t (.int .i64 3),.t (.int .i64 0)]):=by
 have hs:=Zlq l k
 refine AC.go Tryz.func147 Tryz.ntmps147 fun B W hr=>?_
 repeat' (first|refine pa ?_|(refine pb ?_ ?_<;>intro hg)|(refine pz9 ?_;(first|refine Zaa hs ?_))|refine po ?_|fail)
 exact pfg
theorem ZgJ (l:Lv) (k:Int):AC Tryz.prog 143 [.agg [.t (.lst true 9 (Zai l))],.t (.int .i64 k)] (.agg [.t (.int .i64 0),.t (.int .i64 k),.t (.int .i64 (ZcV l k).1),.t (.int .i64 (ZcV l k).2),.t (.int .i64 0),.t (.int .i64 0),.t (.int .i64 1),.t (.int .i64 3),.t (.int .i64 0)]):=by
 have hs:=ZlK l k
 refine AC.go Tryz.func143 Tryz.ntmps143 fun B W hr=>?_
 repeat' (first|refine pa ?_|(refine pb ?_ ?_<;>intro hg)|(refine pz9 ?_;(first|refine Zaa hs ?_))|refine po ?_|fail)
 exact pfg
end Go.Proofs.YthfaongbpdnlnaaGreat
