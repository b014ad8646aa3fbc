/- What is proved: contracts on learning from a packet, program and reference alike.
   Conditions: the peer's lists and differences can be walked. -/
import Derived.Test.YthfaongbpdnlnaaGreatT35ud
import Derived.Test.YthfaongbpdnlnaaGreatT100uc
import Derived.Test.YthfaongbpdnlnaaGreatT101uc
namespace Go.Proofs.YthfaongbpdnlnaaGreat
set_option maxHeartbeats 4000000
set_option maxRecDepth 20000
set_option linter.unusedSimpArgs false
set_option linter.unusedVariables false
open Go.RowKit Ab
theorem Zvi (p:Pr) (x:PkV) (hp:Zeq p) (hd:Zc0 p) (v:Pr) (hv:v=(Zsj p x).getD p):AC Tryz.prog 20 [.agg [.t (.int .i64 p.me),.t (.int .i64 p.delay),.t (.int .i64 p.ahead),.t (.int .i64 p.seed),.t (.lst false 46 (p.tracks.map trackC)),.t (.lst true 9 (Zai p.base.level)),.t (.int .i64 p.base.tick),.t (.int .i64 p.base.seed),.t (ints 3 p.base.scores),.t (.lst true 114 (p.base.bodies.map bodyC)),.t (.lst true 9 (Zai p.now.level)),.t (.int .i64 p.now.tick),.t (.int .i64 p.now.seed),.t (ints 3 p.now.scores),.t (.lst true 114 (p.now.bodies.map bodyC)),.t (.lst false 27 (p.used.map trackC)),.t (.lst true 100 (p.saves.map saveC)),.t (ints 3 p.sums),.t (.int .i64 p.ft),.t (.int .i64 p.fp),.t (.int .i64 p.fa),.t (.int .i64 p.rolls),.t (.int .i64 p.again)],.agg [.t (.int .i64 x.fr),.t (.int .i64 x.tk),.t (.int .i64 x.fs),.t (ints 3 x.ins),.t (ints 3 x.acks),.t (.int .i64 x.stk),.t (.int .i64 x.sm),.t (.int .i64 x.tm),.t (.int .i64 x.ec)]] (.tup [.agg [.t (.int .i64 v.me),.t (.int .i64 v.delay),.t (.int .i64 v.ahead),.t (.int .i64 v.seed),.fr false 46 (v.tracks.map trackC),.fr true 9 (Zai v.base.level),.t (.int .i64 v.base.tick),.t (.int .i64 v.base.seed),.fr true 3 (Zak v.base.scores),.fr true 114 (v.base.bodies.map bodyC),.fr true 9 (Zai v.now.level),.t (.int .i64 v.now.tick),.t (.int .i64 v.now.seed),.fr true 3 (Zak v.now.scores),.fr true 114 (v.now.bodies.map bodyC),.fr false 27 (v.used.map trackC),.fr true 100 (v.saves.map saveC),.fr true 3 (Zak v.sums),.t (.int .i64 v.ft),.t (.int .i64 v.fp),.t (.int .i64 v.fa),.t (.int .i64 v.rolls),.t (.int .i64 v.again)],.t (.bool (Zsj p x).isSome)]):=by
 have hpo:=Zgp p hp.tracks.1
 have hcp:=ZjY p hp
 by_cases h1:Zb9 p=true
 case neg =>
  rw [Ztz fun e=>h1 e.1] at hv ⊢
  rw [Bool.not_eq_true] at h1
  rw [h1] at hpo
  dsimp only [Option.getD_none,Option.isSome_none] at hv ⊢
  subst hv
  refine AC.go Tryz.func20 Tryz.ntmps20 fun B W hr=>?_
  repeat' (first|refine pa ?_|(refine pb ?_ ?_<;>intro hg)|(refine Zab (n:=20) ?_;(first|refine Zaa hpo ?_|refine pz3 hcp ?_))|refine po ?_|fail)
  exact pfg
 rw [h1] at hpo
 by_cases h2:x.fr=p.me
 ·rw [Ztz fun e=>e.2.1 h2] at hv ⊢
  dsimp only [Option.getD_none,Option.isSome_none] at hv ⊢
  subst hv
  refine AC.go Tryz.func20 Tryz.ntmps20 fun B W hr=>?_
  repeat' (first|refine pa ?_|(refine pb ?_ ?_<;>intro hg)|(refine Zab (n:=20) ?_;(first|refine Zaa hpo ?_|refine pz3 hcp ?_))|refine po ?_|fail)
  exact pfg
 have htk:=Zu9 p.tracks x.fr x.tk x.fs x.stk x.sm x.tm x.ec x.ins x.acks hp.tracks.1 hp.tracks.2
 rw [show ZtB p.tracks x.fr x.tk x.fs x.ins x.acks x.stk x.sm x.tm x.ec=Zsk p x from rfl] at htk
 by_cases h3:(Zsk p x).2=true
 case neg =>
  rw [Ztz fun e=>h3 e.2.2] at hv ⊢
  rw [Bool.not_eq_true] at h3
  rw [h3] at htk
  dsimp only [Option.getD_none,Option.isSome_none] at hv ⊢
  subst hv
  refine AC.go Tryz.func20 Tryz.ntmps20 fun B W hr=>?_
  repeat' (first|refine pa ?_|(refine pb ?_ ?_<;>intro hg)|(refine Zab (n:=20) ?_;(first|refine Zaa hpo ?_|refine pz3 hcp ?_|refine pz3 htk ?_))|refine po ?_|fail)
  exact pfg
 have h4:=Ztb (Zbq.1 h1) h3
 have hle:=Zbi h4.2.1
 have hl2:Zeq { p with tracks:=(Zsk p x).1 }:=⟨⟨by show (Zsk p x).1.length≤1048576;omega,fun k hk=>by
  have:=Zei (ZfG h4.2.1 hk)
  show ((Zsk p x).1.getD k default).length≤1048576
  omega⟩,hp.base,hp.now,hp.used,hp.saves,hp.sums⟩
 rw [ZuK ⟨h1,h2,h3⟩] at hv ⊢
 rw [h3] at htk
 generalize (Zsk p x).1=ts at htk hl2 hv ⊢
 have hrp:=ZrM { p with tracks:=ts } hl2 hd _ rfl
 cases hr:Zqk { p with tracks:=ts } with
 | none =>
  rw [hr] at hv hrp
  dsimp only [Option.getD_none,Option.isSome_none,Option.map_none] at hv hrp ⊢
  subst hv
  refine AC.go Tryz.func20 Tryz.ntmps20 fun B W hr=>?_
  repeat' (first|refine pa ?_|(refine pb ?_ ?_<;>intro hg)|(refine Zab (n:=20) ?_;(first|refine Zaa hpo ?_|refine pz3 hcp ?_|refine pz3 htk ?_|refine pz3 hrp ?_))|refine po ?_|fail)
  exact pfg
 | some q =>
  have hcf:=ZrG q (Zt3 hl2 hr) (Zs9 (p:={ p with tracks:=ts }) hd hr) _ rfl
  rw [hr] at hv hrp
  dsimp only [Option.getD_some,Option.isSome_some,Option.map_some] at hv hrp ⊢
  rw [← hv] at hcf
  refine AC.go Tryz.func20 Tryz.ntmps20 fun B W hr=>?_
  repeat' (first|refine pa ?_|(refine pb ?_ ?_<;>intro hg)|(refine Zab (n:=20) ?_;(first|refine Zaa hpo ?_|refine pz3 hcp ?_|refine pz3 htk ?_|refine pz3 hrp ?_|refine pz3 hcf ?_))|refine po ?_|fail)
  exact pfg
end Go.Proofs.YthfaongbpdnlnaaGreat
