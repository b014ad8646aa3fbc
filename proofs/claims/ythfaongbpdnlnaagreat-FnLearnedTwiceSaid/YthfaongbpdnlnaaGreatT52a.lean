/- What is proved: the contract on BodyOk for bodies of kind 0.
   Conditions: a valid level, a free place, a speed and an owner in range. -/
import Derived.Test.YthfaongbpdnlnaaGreatT3
namespace Go.Proofs.YthfaongbpdnlnaaGreat
set_option maxHeartbeats 4000000
set_option maxRecDepth 20000
set_option linter.unusedSimpArgs false
set_option linter.unusedVariables false
open Go.RowKit Ab
theorem Zof (l:Lv) (n:Int) (b:Bd) (hl:Zbc l=true) (hk:0≤b.kind∧b.kind≤2) (hv:ZaG l b.x b.y (Zas b.kind)=false) (j1:-15≤b.vx∧b.vx≤15) (j2:-15≤b.vy∧b.vy≤15) (o1:0≤b.owner∧b.owner < n) (k0:b.kind=0):AC Tryz.prog 170 [.agg [.t (.lst true 9 (Zai l))],.t (.int .i64 n),.agg [.t (.int .i64 b.kind),.t (.int .i64 b.owner),.t (.int .i64 b.x),.t (.int .i64 b.y),.t (.int .i64 b.vx),.t (.int .i64 b.vy),.t (.int .i64 b.aim),.t (.int .i64 b.life),.t (.int .i64 b.timer)]] (.t (.bool (Zhw l n b))):=by
 have hL:=Zbz l
 rw [hl] at hL
 have hsz:=Zci b.kind
 have hsp:=ZbE hk
 have hsol:=ZcC l b.x b.y (Zas b.kind)
 rw [Ze6 hl hsp,hv] at hsol
 have i1:inR b.vx (-15) 15=true:=Zae.2 j1
 have i2:inR b.vy (-15) 15=true:=Zae.2 j2
 have hBP:=Zjq (n:=n) hk hv j1 j2
 have hlife:(inR b.life 0 3=true∧0≤b.life∧b.life≤3)∨(inR b.life 0 3=false∧¬ (0≤b.life∧b.life≤3)):=by
  by_cases h:0≤b.life∧b.life≤3
  ·exact .inl ⟨Zae.2 h,h⟩
  ·exact .inr ⟨by rw [Bool.eq_false_iff,Ne,Zae];exact h,h⟩
 rcases (show (b.aim ≠ 1∧b.aim ≠ -1)∨b.aim=1∨b.aim=-1 by omega) with a0|a0|a0
 case' inr.inl=>rcases hlife with ⟨i3,j3⟩|⟨i3,j3⟩
 case' inr.inl.inl=>rcases (show 0 < b.life∨b.life=0 by omega) with l1|l1
 case' inr.inr=>rcases hlife with ⟨i3,j3⟩|⟨i3,j3⟩
 case' inr.inr.inl=>rcases (show 0 < b.life∨b.life=0 by omega) with l1|l1
 all_goals try clear hlife
 all_goals (
  refine AC.go Tryz.func170 Tryz.ntmps170 fun B W hr=>?_)
 repeat' (first|refine pa ?_|(refine pb ?_ ?_<;>intro hg)|(refine pz9 ?_;(first|refine Zaa hL ?_|refine Zaa hsz ?_|refine Zaa hsol ?_|refine Zaa (Zaq _ _ _) ?_))|refine po ?_|((apply pdq 9;(focus exact pdp);(focus ((apply pct 9 511 0;(focus (intro hd2;(apply pct 9 255 1;(focus (intro hd1;(refine pt7_ 0 ?_<;>refine ZaC 1 ?_<;>refine pt7_ 2 ?_<;>refine ZaC 3 ?_<;>refine pt7_ 4 ?_<;>refine ZaC 5 ?_<;>refine pt7_ 6 ?_<;>(refine pq1 7 ?_;(focus ((refine pop ?_;(refine pz9 ?_;(first|refine Zaa hsz ?_)))<;>(exact ptm hd1)))))));(case main=>((refine pq1 8 ?_;(focus ((refine pop ?_;(refine pz9 ?_;(first|refine Zaa hsol ?_)))<;>(exact ptm hd2)))))))));(case main=>((refine ZaI ?_;exact ZaJ))))))))|fail)
 all_goals try (exfalso;omega)
 all_goals refine pfin ?_
 all_goals exact .inl (congrArg T.bool (by rw [Bool.eq_iff_iff,ZbV,hBP,Zln];simp only [Zae,decide_eq_true_eq,Bool.false_eq_true,false_iff];omega))
end Go.Proofs.YthfaongbpdnlnaaGreat
