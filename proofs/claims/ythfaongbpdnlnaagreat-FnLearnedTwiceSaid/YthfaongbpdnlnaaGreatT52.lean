/- What is proved: contracts on bodies that are valid, program and reference alike.
   Conditions: none beyond those that each lemma names. -/
import Derived.Test.YthfaongbpdnlnaaGreatT52a
import Derived.Test.YthfaongbpdnlnaaGreatT52c
namespace Go.Proofs.YthfaongbpdnlnaaGreat
set_option maxHeartbeats 4000000
set_option maxRecDepth 20000
set_option linter.unusedSimpArgs false
set_option linter.unusedVariables false
open Go.RowKit Ab
theorem T52d1 {X Y:Prop} (h:Y) (r:Hld Y→X:=by intro h;(apply pdq 9;(focus exact pdp);(focus ((apply pct 9 511 0;(focus (intro hd2;(apply pct 9 255 1;(focus (intro hd1;(refine pt7_ 0 ?_<;>refine ZaC 1 ?_<;>refine pt7_ 2 ?_<;>refine ZaC 3 ?_<;>refine pt7_ 4 ?_<;>refine ZaC 5 ?_<;>refine pt7_ 6 ?_<;>(refine pq1 7 ?_;(focus ((refine pop ?_;(refine pz9 ?_;(first|refine Zaa hsz ?_)))<;>(exact ptm hd1)))))));(case main=>((refine pq1 8 ?_;(focus ((refine pop ?_;(refine pz9 ?_;(first|refine Zaa hsol ?_)))<;>(exact ptm hd2)))))))));(case main=>((refine ZaI ?_;exact ZaJ)))))));exact h.out):X:=r ⟨h⟩
theorem Zix (l:Lv) (n:Int) (b:Bd):AC Tryz.prog 170 [.agg [.t (.lst true 9 (Zai l))],.t (.int .i64 n),.agg [.t (.int .i64 b.kind),.t (.int .i64 b.owner),.t (.int .i64 b.x),.t (.int .i64 b.y),.t (.int .i64 b.vx),.t (.int .i64 b.vy),.t (.int .i64 b.aim),.t (.int .i64 b.life),.t (.int .i64 b.timer)]] (.t (.bool (Zdf l n b))):=by
 have hL:=Zbz l
 cases hl:Zbc l with
 | false =>
  rw [hl] at hL
  rw [show Zdf l n b=false by simp [Zdf,hl]]
  refine AC.go Tryz.func170 Tryz.ntmps170 fun B W hr=>?_
  repeat' (first|refine pa ?_|(refine pb ?_ ?_<;>intro hg)|(refine pz9 ?_;(first|refine Zaa hL ?_))|refine po ?_|fail)
  exact pfr
 | true =>
  rw [hl] at hL
  rw [show Zdf l n b=Zhw l n b by simp [Zdf,hl]]
  by_cases hk:0≤b.kind∧b.kind≤2
  ·have hsz:=Zci b.kind
   have hsp:=ZbE hk
   have hsol:=ZcC l b.x b.y (Zas b.kind)
   rw [Ze6 hl hsp] at hsol
   cases hv:ZaG l b.x b.y (Zas b.kind) with
   | true =>
    rw [hv] at hsol
    rw [ZcM fun h=>by have:=h.free;rw [hv] at this;cases this]
    refine AC.go Tryz.func170 Tryz.ntmps170 fun B W hr=>?_
    repeat' (first|refine pa ?_|(refine pb ?_ ?_<;>intro hg)|(refine pz9 ?_;(first|refine Zaa hL ?_|refine Zaa hsz ?_|refine Zaa hsol ?_))|refine po ?_|(refine T52d1 ?_)|fail)
    all_goals first|(exfalso;omega)|(refine pfin ?_;exact .inl rfl)
   | false =>
    rw [hv] at hsol
    by_cases j1:-15≤b.vx∧b.vx≤15
    ·by_cases j2:-15≤b.vy∧b.vy≤15
     ·have i1:inR b.vx (-15) 15=true:=Zae.2 j1
      have i2:inR b.vy (-15) 15=true:=Zae.2 j2
      by_cases o1:0≤b.owner∧b.owner < n
      ·rcases (show b.kind=0∨b.kind=1∨b.kind=2 by omega) with k0|k0|k0
       ·exact Zof l n b hl hk hv j1 j2 o1 k0
       ·exact Zog l n b hl hk hv j1 j2 o1 k0
       ·exact Zoh l n b hl hk hv j1 j2 o1 k0
      ·rw [ZcM fun h=>o1 h.owner]
       refine AC.go Tryz.func170 Tryz.ntmps170 fun B W hr=>?_
       repeat' (first|refine pa ?_|(refine pb ?_ ?_<;>intro hg)|(refine pz9 ?_;(first|refine Zaa hL ?_))|refine po ?_|fail)
       all_goals first|(exfalso;omega)|(refine pfin ?_;exact .inl rfl)
     ·have i1:inR b.vx (-15) 15=true:=Zae.2 j1
      have i2:inR b.vy (-15) 15=false:=by rw [Bool.eq_false_iff,Ne,Zae];exact j2
      rw [ZcM fun h=>j2 h.vy]
      refine AC.go Tryz.func170 Tryz.ntmps170 fun B W hr=>?_
      repeat' (first|refine pa ?_|(refine pb ?_ ?_<;>intro hg)|(refine pz9 ?_;(first|refine Zaa hL ?_|refine Zaa hsz ?_|refine Zaa hsol ?_|refine Zaa (Zaq _ _ _) ?_))|refine po ?_|(refine T52d1 ?_)|fail)
      all_goals first|(exfalso;omega)|(refine pfin ?_;exact .inl rfl)
    ·have i1:inR b.vx (-15) 15=false:=by rw [Bool.eq_false_iff,Ne,Zae];exact j1
     rw [ZcM fun h=>j1 h.vx]
     refine AC.go Tryz.func170 Tryz.ntmps170 fun B W hr=>?_
     repeat' (first|refine pa ?_|(refine pb ?_ ?_<;>intro hg)|(refine pz9 ?_;(first|refine Zaa hL ?_|refine Zaa hsz ?_|refine Zaa hsol ?_|refine Zaa (Zaq _ _ _) ?_))|refine po ?_|(refine T52d1 ?_)|fail)
     all_goals first|(exfalso;omega)|(refine pfin ?_;exact .inl rfl)
  ·rw [ZcM fun h=>hk h.kind]
   refine AC.go Tryz.func170 Tryz.ntmps170 fun B W hr=>?_
   repeat' (first|refine pa ?_|(refine pb ?_ ?_<;>intro hg)|(refine pz9 ?_;(first|refine Zaa hL ?_))|refine po ?_|fail)
   all_goals first|(exfalso;omega)|(refine pfin ?_;exact .inl rfl)
end Go.Proofs.YthfaongbpdnlnaaGreat
