/- What is proved: contracts on bodies that are valid, the reference's.
   Conditions: none beyond those that each lemma names. -/
import Derived.Test.YthfaongbpdnlnaaGreatT3
namespace Go.Proofs.YthfaongbpdnlnaaGreat
set_option maxHeartbeats 4000000
set_option maxRecDepth 20000
set_option linter.unusedSimpArgs false
set_option linter.unusedVariables false
open Go.RowKit Ab
theorem Zpz {X Y:Prop} (h:Y) (r:Hld Y→X:=by intro h;(apply pdq 35;(focus exact pdp);(focus ((apply pct 35 8589934591 2;(focus (intro hd6;(apply pct 35 134217727 8;(focus (intro hd5;(apply pct 35 4194303 13;(focus (intro hd4;(apply pct 35 2097151 14;(focus (intro hd3;(apply pct 35 1023 25;(focus (intro hd2;(apply pct 35 7 32;(focus (intro hd1;(refine ZaC 0 ?_<;>refine pt7_ 1 ?_<;>(refine pq1 2 ?_;(focus ((refine pop ?_;(refine Zab (n:=20) ?_;(first|refine Zaa (Zah _ _ _) ?_)))<;>(exact ptm hd1)))))));(case main=>(refine Zf9 3 ?_<;>refine pt0_ 4 ?_<;>refine ZaK 5 ?_<;>refine pg7_ 6 ?_<;>refine pg0_ 7 ?_<;>refine ZcA 8 ?_<;>(refine pq1 9 ?_;(focus ((first|(refine pog ?_;(refine Zab (n:=20) ?_;(first|refine Zaa (Zah _ _ _) ?_)))|refine pon ?_)<;>(exact ptm hd2)))))))));(case main=>(refine ZnK 10 ?_<;>refine pt2_ 11 ?_<;>refine pt0_ 12 ?_<;>refine pg7_ 13 ?_<;>refine ZaK 14 ?_<;>refine pg7_ 15 ?_<;>refine ZaK 16 ?_<;>refine pg7_ 17 ?_<;>refine ZaK 18 ?_<;>refine pg7_ 19 ?_<;>(refine pq1 20 ?_;(focus ((first|(refine pog ?_;(refine Zab (n:=20) ?_;(first|refine Zaa hsz ?_)))|refine pon ?_)<;>(exact ptm hd3)))))))));(case main=>((refine pq1 21 ?_;(focus ((first|(refine pog ?_;(refine Zab (n:=20) ?_;(first|refine Zaa hsol ?_)))|refine pon ?_)<;>(exact ptm hd4)))))))));(case main=>(refine pt2_ 22 ?_<;>refine pt0_ 23 ?_<;>refine ZaK 24 ?_<;>refine pg7_ 25 ?_<;>(refine pq1 26 ?_;(focus ((first|(refine pog ?_;(refine Zab (n:=20) ?_;(first|refine Zaa (Zah _ _ _) ?_)))|refine pon ?_)<;>(exact ptm hd5)))))))));(case main=>(refine ZnK 27 ?_<;>refine pt2_ 28 ?_<;>refine pt0_ 29 ?_<;>refine ZaK 30 ?_<;>refine pg7_ 31 ?_<;>(refine pq1 32 ?_;(focus ((first|(refine pog ?_;(refine Zab (n:=20) ?_;(first|refine Zaa (Zah _ _ _) ?_)))|refine pon ?_)<;>(exact ptm hd6)))))))));(case main=>(refine ZnK 33 ?_<;>refine pt2_ 34 ?_<;>(refine ZaI ?_;exact ZaJ)))))));exact h.out):X:=r ⟨h⟩
theorem T53d2 {X Y:Prop} (h:Y) (r:Hld Y→X:=by intro h;(apply pdq 35;(focus exact pdp);(focus ((apply pct 35 8589934591 2;(focus (intro hd6;(apply pct 35 134217727 8;(focus (intro hd5;(apply pct 35 4194303 13;(focus (intro hd4;(apply pct 35 2097151 14;(focus (intro hd3;(apply pct 35 1023 25;(focus (intro hd2;(apply pct 35 7 32;(focus (intro hd1;(refine ZaC 0 ?_<;>refine pt7_ 1 ?_<;>(refine pq1 2 ?_;(focus ((refine pop ?_;(refine Zab (n:=20) ?_;(first|refine Zaa (Zah _ _ _) ?_)))<;>(exact ptm hd1)))))));(case main=>(refine Zf9 3 ?_<;>refine pt0_ 4 ?_<;>refine ZaK 5 ?_<;>refine pg7_ 6 ?_<;>refine pg0_ 7 ?_<;>refine ZcA 8 ?_<;>(refine pq1 9 ?_;(focus ((first|(refine pog ?_;(refine Zab (n:=20) ?_;(first|refine Zaa (Zah _ _ _) ?_)))|refine pon ?_)<;>(exact ptm hd2)))))))));(case main=>(refine ZnK 10 ?_<;>refine pt2_ 11 ?_<;>refine pt0_ 12 ?_<;>refine pg7_ 13 ?_<;>refine ZaK 14 ?_<;>refine pg7_ 15 ?_<;>refine ZaK 16 ?_<;>refine pg7_ 17 ?_<;>refine ZaK 18 ?_<;>refine pg7_ 19 ?_<;>(refine pq1 20 ?_;(focus ((first|(refine pog ?_;(refine Zab (n:=20) ?_;(first|fail)))|refine pon ?_)<;>(exact ptm hd3)))))))));(case main=>((refine pq1 21 ?_;(focus ((first|(refine pog ?_;(refine Zab (n:=20) ?_;(first|fail)))|refine pon ?_)<;>(exact ptm hd4)))))))));(case main=>(refine pt2_ 22 ?_<;>refine pt0_ 23 ?_<;>refine ZaK 24 ?_<;>refine pg7_ 25 ?_<;>(refine pq1 26 ?_;(focus ((first|(refine pog ?_;(refine Zab (n:=20) ?_;(first|refine Zaa (Zah _ _ _) ?_)))|refine pon ?_)<;>(exact ptm hd5)))))))));(case main=>(refine ZnK 27 ?_<;>refine pt2_ 28 ?_<;>refine pt0_ 29 ?_<;>refine ZaK 30 ?_<;>refine pg7_ 31 ?_<;>(refine pq1 32 ?_;(focus ((first|(refine pog ?_;(refine Zab (n:=20) ?_;(first|refine Zaa (Zah _ _ _) ?_)))|refine pon ?_)<;>(exact ptm hd6)))))))));(case main=>(refine ZnK 33 ?_<;>refine pt2_ 34 ?_<;>(refine ZaI ?_;exact ZaJ)))))));exact h.out):X:=r ⟨h⟩
theorem ZlM (l:Lv) (n:Int) (b:Bd) (hn:0≤n∧n≤1048576) (hll:l.length≤1048576):AC Tryz.prog 161 [.agg [.t (.lst true 9 (Zai l))],.t (.int .i64 n),.agg [.t (.int .i64 b.kind),.t (.int .i64 b.owner),.t (.int .i64 b.x),.t (.int .i64 b.y),.t (.int .i64 b.vx),.t (.int .i64 b.vy),.t (.int .i64 b.aim),.t (.int .i64 b.life),.t (.int .i64 b.timer)]] (.t (.bool (Zhw l n b))):=by
 by_cases hk:0≤b.kind∧b.kind≤2
 ·have i0:=Zae.2 hk
  by_cases o1:0≤b.owner∧b.owner≤n - 1
  ·have i1:=Zae.2 o1
   have hsz:=ZdL b.kind
   have hsp:=ZbE hk
   have hsol:=Zdx l b.x b.y (Zas b.kind) hsp hll
   clear hsp
   cases hv:ZaG l b.x b.y (Zas b.kind) with
   | true =>
    rw [hv] at hsol
    rw [ZcM fun h=>by have:=h.free;rw [hv] at this;cases this]
    refine AC.go Tryz.func161 Tryz.ntmps161 fun B W hr=>?_
    repeat' (first|refine pa ?_|(refine pb ?_ ?_<;>intro hg)|(refine Zab (n:=20) ?_;(first|refine Zaa (Zah _ _ _) ?_|refine Zaa hsz ?_|refine Zaa hsol ?_))|refine po ?_|(refine Zpz ?_)|fail)
    exact pfr
   | false =>
    rw [hv] at hsol
    by_cases j1:-15≤b.vx∧b.vx≤15
    ·have i2:=Zae.2 j1
     by_cases j2:-15≤b.vy∧b.vy≤15
     ·have i3:=Zae.2 j2
      have hBP:ZbF l n b↔Zln n b:=⟨fun h=>⟨h.owner,h.aim,h.life,h.timer⟩,fun ⟨q1,q2,q3,q4⟩=>⟨hk,q1,hv,j1,j2,q2,q3,q4⟩⟩
      have hbl:∀ {c:Bool},(c=true↔Zln n b)→c=Zhw l n b:=fun h=>by rw [Bool.eq_iff_iff,ZbV,hBP];exact h
      clear hBP
      have hlife:(inR b.life 0 3=true∧0≤b.life∧b.life≤3)∨(inR b.life 0 3=false∧¬ (0≤b.life∧b.life≤3)):=by
       by_cases h:0≤b.life∧b.life≤3
       ·exact .inl ⟨Zae.2 h,h⟩
       ·exact .inr ⟨Zb3 h,h⟩
      rcases (show b.kind=0∨b.kind=1∨b.kind=2 by omega) with k0|k0|k0
      case' inl=>rcases (show (b.aim ≠ 1∧b.aim ≠ -1)∨b.aim=1∨b.aim=-1 by omega) with a0|a0|a0
      case' inl.inr.inl=>rcases hlife with ⟨i4,j4⟩|⟨i4,j4⟩
      case' inl.inr.inl.inl=>rcases (show b.life=0∨b.life ≠ 0 by omega) with l1|l1
      case' inl.inr.inr=>rcases hlife with ⟨i4,j4⟩|⟨i4,j4⟩
      case' inl.inr.inr.inl=>rcases (show b.life=0∨b.life ≠ 0 by omega) with l1|l1
      case' inr.inl=>rcases (show b.aim=0∨b.aim ≠ 0 by omega) with a0|a0
      case' inr.inl.inl=>rcases (show b.life=0∨b.life ≠ 0 by omega) with l1|l1
      case' inr.inr=>rcases (show b.owner=0∨b.owner ≠ 0 by omega) with o0|o0
      case' inr.inr.inl=>rcases (show b.aim=0∨b.aim ≠ 0 by omega) with a0|a0
      case' inr.inr.inl.inl=>rcases (show b.life=0∨b.life ≠ 0 by omega) with l1|l1
      all_goals try clear hlife
      all_goals (
       refine AC.go Tryz.func161 Tryz.ntmps161 fun B W hr=>?_)
      repeat' (first|refine pa ?_|(refine pb ?_ ?_<;>intro hg)|(refine Zab (n:=20) ?_;(first|refine Zaa (Zah _ _ _) ?_|refine Zaa hsz ?_|refine Zaa hsol ?_))|refine po ?_|(refine Zpz ?_)|fail)
      all_goals refine pfin ?_
      all_goals exact .inl (congrArg T.bool (hbl (by unfold Zln;simp only [Zae,decide_eq_true_eq,Bool.false_eq_true,false_iff];omega)))
     ·have i3:=Zb3 j2
      rw [ZcM fun h=>j2 h.vy]
      refine AC.go Tryz.func161 Tryz.ntmps161 fun B W hr=>?_
      repeat' (first|refine pa ?_|(refine pb ?_ ?_<;>intro hg)|(refine Zab (n:=20) ?_;(first|refine Zaa (Zah _ _ _) ?_|refine Zaa hsz ?_|refine Zaa hsol ?_))|refine po ?_|(refine Zpz ?_)|fail)
      exact pfr
    ·have i2:=Zb3 j1
     rw [ZcM fun h=>j1 h.vx]
     refine AC.go Tryz.func161 Tryz.ntmps161 fun B W hr=>?_
     repeat' (first|refine pa ?_|(refine pb ?_ ?_<;>intro hg)|(refine Zab (n:=20) ?_;(first|refine Zaa (Zah _ _ _) ?_|refine Zaa hsz ?_|refine Zaa hsol ?_))|refine po ?_|(refine Zpz ?_)|fail)
     exact pfr
  ·have i1:=Zb3 o1
   rw [ZcM fun h=>o1 ⟨h.owner.1,by have:=h.owner.2;omega⟩]
   refine AC.go Tryz.func161 Tryz.ntmps161 fun B W hr=>?_
   repeat' (first|refine pa ?_|(refine pb ?_ ?_<;>intro hg)|(refine Zab (n:=20) ?_;(first|refine Zaa (Zah _ _ _) ?_))|refine po ?_|(refine T53d2 ?_)|fail)
   exact pfr
 ·have i0:=Zb3 hk
  rw [ZcM fun h=>hk h.kind]
  refine AC.go Tryz.func161 Tryz.ntmps161 fun B W hr=>?_
  repeat' (first|refine pa ?_|(refine pb ?_ ?_<;>intro hg)|(refine Zab (n:=20) ?_;(first|refine Zaa (Zah _ _ _) ?_))|refine po ?_|(refine T53d2 ?_)|fail)
  exact pfr
end Go.Proofs.YthfaongbpdnlnaaGreat
