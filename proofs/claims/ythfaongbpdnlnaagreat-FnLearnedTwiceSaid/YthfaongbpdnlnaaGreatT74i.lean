/- What is proved: contracts on players that are steered, program and reference alike.
   Conditions: the player is valid. -/
import Derived.Test.YthfaongbpdnlnaaGreatT52
import Derived.Test.YthfaongbpdnlnaaGreatT73
namespace Go.Proofs.YthfaongbpdnlnaaGreat
set_option maxHeartbeats 4000000
set_option maxRecDepth 20000
set_option linter.unusedSimpArgs false
set_option linter.unusedVariables false
open Go.RowKit Ab
theorem T74d1 {X Y:Prop} (h:Y) (r:Hld Y→X:=by intro h;(apply pdq 13;(focus exact pdp);(focus (refine pt0_ 0 ?_<;>refine Zbh 1 ?_<;>refine Zbh 2 ?_<;>refine pt0_ 3 ?_<;>(first|refine pg7_ 4 ?_|(refine pt2 4 ?_ ?_<;>intro hg<;>(refine pg7_ 4 ?_)))<;>(first|refine ZaK 5 ?_|(refine pt2 5 ?_ ?_<;>intro hg<;>(refine ZaK 5 ?_)))<;>(first|refine pg7_ 6 ?_|(refine pt2 6 ?_ ?_<;>intro hg<;>(refine pg7_ 6 ?_)))<;>(first|refine ZaK 7 ?_|(refine pt2 7 ?_ ?_<;>intro hg<;>(refine ZaK 7 ?_)))<;>(first|refine pg7_ 8 ?_|(refine pt2 8 ?_ ?_<;>intro hg<;>(refine pg7_ 8 ?_)))<;>(first|refine ZcA 9 ?_|(refine pt2 9 ?_ ?_<;>intro hg<;>(refine ZcA 9 ?_)))<;>(refine pq1 10 ?_)<;>(first|(refine pog ?_;(first|(refine Zab (n:=20) ?_;(first|refine Zaa hsz ?_|refine Zaa hso ?_))|refine pk20 ?_))|refine pon ?_|(refine po2 ?_ ?_<;>intro hg<;>(first|(refine pog ?_;(first|(refine Zab (n:=20) ?_;(first|refine Zaa hsz ?_|refine Zaa hso ?_))|refine pk20 ?_))|refine pon ?_)))<;>(refine pq1 11 ?_)<;>(first|(refine pog ?_;(first|(refine Zab (n:=20) ?_;(first|refine Zaa hsz ?_|refine Zaa hso ?_))|refine pk20 ?_))|refine pon ?_|(refine po2 ?_ ?_<;>intro hg<;>(first|(refine pog ?_;(first|(refine Zab (n:=20) ?_;(first|refine Zaa hsz ?_|refine Zaa hso ?_))|refine pk20 ?_))|refine pon ?_)))<;>refine pt2_ 12 ?_<;>(refine ZaI ?_;exact ZaJ))));exact h.out):X:=r ⟨h⟩
theorem T74d2 {X Y:Prop} (h:Y) (r:Hld Y→X:=by intro h;(apply pdq 15;(focus exact pdp);(focus (refine pt0_ 0 ?_<;>refine Zbh 1 ?_<;>refine Zbh 2 ?_<;>refine pt0_ 3 ?_<;>(first|refine pg7_ 4 ?_|(refine pt2 4 ?_ ?_<;>intro hg<;>(refine pg7_ 4 ?_)))<;>(first|refine ZaK 5 ?_|(refine pt2 5 ?_ ?_<;>intro hg<;>(refine ZaK 5 ?_)))<;>(first|refine pg7_ 6 ?_|(refine pt2 6 ?_ ?_<;>intro hg<;>(refine pg7_ 6 ?_)))<;>(first|refine ZaK 7 ?_|(refine pt2 7 ?_ ?_<;>intro hg<;>(refine ZaK 7 ?_)))<;>(first|refine pg7_ 8 ?_|(refine pt2 8 ?_ ?_<;>intro hg<;>(refine pg7_ 8 ?_)))<;>(first|refine ZcA 9 ?_|(refine pt2 9 ?_ ?_<;>intro hg<;>(refine ZcA 9 ?_)))<;>(first|refine ZaK 10 ?_|(refine pt2 10 ?_ ?_<;>intro hg<;>(refine ZaK 10 ?_)))<;>(first|refine pg7_ 11 ?_|(refine pt2 11 ?_ ?_<;>intro hg<;>(refine pg7_ 11 ?_)))<;>(refine pq1 12 ?_)<;>(first|(refine pog ?_;(first|(refine Zab (n:=20) ?_;(first|refine Zaa hsz ?_|refine Zaa hso ?_))|refine pk20 ?_))|refine pon ?_|(refine po2 ?_ ?_<;>intro hg<;>(first|(refine pog ?_;(first|(refine Zab (n:=20) ?_;(first|refine Zaa hsz ?_|refine Zaa hso ?_))|refine pk20 ?_))|refine pon ?_)))<;>(refine pq1 13 ?_)<;>(first|(refine pog ?_;(first|(refine Zab (n:=20) ?_;(first|refine Zaa hsz ?_|refine Zaa hso ?_))|refine pk20 ?_))|refine pon ?_|(refine po2 ?_ ?_<;>intro hg<;>(first|(refine pog ?_;(first|(refine Zab (n:=20) ?_;(first|refine Zaa hsz ?_|refine Zaa hso ?_))|refine pk20 ?_))|refine pon ?_)))<;>refine pt2_ 14 ?_<;>(refine ZaI ?_;exact ZaJ))));exact h.out):X:=r ⟨h⟩
def ZiV (b:Bd) (i:Int):Int×Int:=if bitV i 2 ≠ 0∧bitV i 1=0 then (3,1) else (0,b.aim)
theorem Zna {b:Bd} {i:Int} (h:bitV i 1 ≠ 0) (h2:bitV i 2=0):Zbo b i=(-3,-1):=by
 unfold Zbo
 rw [if_neg fun e=>e.1 h2,if_pos ⟨h,h2⟩]
theorem Zha {b:Bd} {i:Int} (h:bitV i 1=0∨bitV i 2 ≠ 0):Zbo b i=ZiV b i:=by
 unfold Zbo ZiV
 split
 ·rfl
 ·rw [if_neg fun e=>?_]
  rcases h with h|h
  ·exact e.1 h
  ·exact h e.2
theorem Znb {l:Lv} {b:Bd} {i:Int} (h:bitV i 4 ≠ 0) (h2:ZaG l b.x (b.y + 1) (Zas b.kind)=true):ZcZ l b i=-9:=if_pos ⟨h,h2⟩
theorem Zhb {l:Lv} {b:Bd} {i:Int} (h:bitV i 4=0∨ZaG l b.x (b.y + 1) (Zas b.kind)=false):ZcZ l b i=if 8 < b.vy + 1 then 8 else b.vy + 1:=by
 unfold ZcZ
 rw [if_neg fun e=>?_]
 rcases h with h|h
 ·exact e.1 h
 ·rw [h] at e;cases e.2
theorem Zm9 {l:Lv} {b:Bd} {i:Int} (h:bitV i 8 ≠ 0) (h2:Zff b.timer=0):ZaQ l b i=({ b with vx:=(Zbo b i).1,aim:=(Zbo b i).2,vy:=ZcZ l b i,timer:=12 },true):=if_pos ⟨h,h2⟩
theorem Zg9 {l:Lv} {b:Bd} {i:Int} (h:bitV i 8=0∨Zff b.timer ≠ 0):ZaQ l b i=({ b with vx:=(Zbo b i).1,aim:=(Zbo b i).2,vy:=ZcZ l b i,timer:=Zff b.timer },false):=by
 unfold ZaQ
 rw [if_neg fun e=>?_]
 rcases h with h|h
 ·exact e.1 h
 ·exact h e.2
theorem Zhi (l:Lv) (n:Int) (b:Bd) (i:Int) (hl:ZaZ l) (h:ZbF l n b) (hk:b.kind=0) (hf:1≤b.life) (ho:b.owner≤3) (hi:0≤i∧i≤15):AC Tryz.prog 240 [.agg [.t (.lst true 9 (Zai l))],.agg [.t (.int .i64 b.kind),.t (.int .i64 b.owner),.t (.int .i64 b.x),.t (.int .i64 b.y),.t (.int .i64 b.vx),.t (.int .i64 b.vy),.t (.int .i64 b.aim),.t (.int .i64 b.life),.t (.int .i64 b.timer)],.t (.int .i64 i)] (.tup [.agg [.t (.int .i64 (ZaQ l b i).1.kind),.t (.int .i64 (ZaQ l b i).1.owner),.t (.int .i64 (ZaQ l b i).1.x),.t (.int .i64 (ZaQ l b i).1.y),.t (.int .i64 (ZaQ l b i).1.vx),.t (.int .i64 (ZaQ l b i).1.vy),.t (.int .i64 (ZaQ l b i).1.aim),.t (.int .i64 (ZaQ l b i).1.life),.t (.int .i64 (ZaQ l b i).1.timer)],.t (.bool (ZaQ l b i).2)]):=by
 have hlev:Zbc l=true:=ZaU.2 hl
 have hpos:=h.pos
 have hpx:=hpos.x;have hpy:=hpos.y
 have g1:=hl.n12
 have hvy:=h.vy
 have how0:=h.owner.1
 have htm:0≤b.timer∧b.timer≤12:=by rcases h.timer with e|e|e|e<;>omega
 have hsk:Zas b.kind=12:=by rw [hk];rfl
 have hL:=Zbz l
 rw [hlev] at hL
 have j1:=Zae.2 (show 0≤b.owner∧b.owner≤3 from ⟨h.owner.1,ho⟩)
 have j2:=Zae.2 hi
 have hB:=Zix l (b.owner + 1) b
 rw [show Zdf l (b.owner + 1) b=true by unfold Zdf;rw [hlev,ZbV.2 ⟨h.kind,⟨h.owner.1,by omega⟩,h.free,h.vx,h.vy,h.aim,h.life,h.timer⟩];rfl] at hB
 have hsz:=Zci 0
 have hso:=ZcC l b.x (b.y + 1) (Zas 0)
 rw [show ZbU l b.x (b.y + 1) (Zas 0)=ZaG l b.x (b.y + 1) (Zas b.kind) by unfold ZbU;rw [hlev,show Zas 0=12 from rfl,hsk];rfl] at hso
 refine AC.go Tryz.func240 Tryz.ntmps240 fun B W hr=>?_
 repeat' (first|(refine pth ?_)|((fail_if_success (with_reducible show aW _ _ _ (Code.seq (Code.seq (Code.region 5 _ _) _) _) _ _));(fail_if_success (with_reducible show aW _ _ _ (Code.seq (Code.region 5 _ _) _) _ _));(fail_if_success (with_reducible show aW _ _ _ (Code.region 5 _ _) _ _));(first|refine pc ?_|(refine pbc ?_ ?_<;>intro hg)))|(first|refine pl ?_|(refine pbl ?_ ?_<;>intro hg))|(first|(refine Zab (n:=20) ?_;(first|refine Zaa hL ?_|refine Zaa ((Zaq _ _ _)) ?_|refine Zaa hB ?_))|refine po ?_)|fail)
 refine aW.seqJ rfl (fun z:Int=>[]) [(2,_),(3,_),(4,_),(6,_)] (fun z:Int=>[(4,1,.box 114 [.t (.int .i64 b.kind),.t (.int .i64 b.owner),.t (.int .i64 b.x),.t (.int .i64 b.y),.t (.int .i64 b.vx),.t (.int .i64 b.vy),.t (.int .i64 b.aim),.t (.int .i64 b.life),.t (.int .i64 z)])]) [(3,_,_),(6,_,_)] (fun z:Int=>z=Zff b.timer) b.timer (by (exact plei)) ?_ ?_
 ·by_cases ht:0 < b.timer
  ·repeat' (first|refine pa ?_|(refine pb ?_ ?_<;>intro hg)|refine po ?_|fail)
   exact .inl ⟨rfl,b.timer - 1,(by unfold Zff;rw [if_pos ht]),by (exact ple)⟩
  ·repeat' (first|refine pa ?_|(refine pb ?_ ?_<;>intro hg)|refine po ?_|fail)
   exact .inl ⟨rfl,b.timer,(by unfold Zff;rw [if_neg ht]),by (exact ple)⟩
 rintro t ht
 have ht:t=Zff b.timer:=ht
 have htc:0≤t∧t≤12:=by rw [ht];exact ZlZ htm
 refine pln ?_
 repeat' (first|(refine pth ?_)|((fail_if_success (with_reducible show aW _ _ _ (Code.seq (Code.seq (Code.region 10 _ _) _) _) _ _));(fail_if_success (with_reducible show aW _ _ _ (Code.seq (Code.region 10 _ _) _) _ _));(fail_if_success (with_reducible show aW _ _ _ (Code.region 10 _ _) _ _));(first|refine pc ?_|(refine pbc ?_ ?_<;>intro hg)))|(first|refine pl ?_|(refine pbl ?_ ?_<;>intro hg))|(first|refine po ?_)|fail)
 refine aW.seqJ rfl (fun z:Int×Int=>[]) [(2,_),(3,_),(4,_),(6,_),(8,_),(9,_)] (fun z:Int×Int=>[(4,1,.box 114 [.t (.int .i64 b.kind),.t (.int .i64 b.owner),.t (.int .i64 b.x),.t (.int .i64 b.y),.t (.int .i64 z.1),.t (.int .i64 b.vy),.t (.int .i64 z.2),.t (.int .i64 b.life),.t (.int .i64 t)])]) [(3,_,_),(6,_,_)] (fun z:Int×Int=>z=ZiV b i) (0,b.aim) (by (exact plei)) ?_ ?_
 ·by_cases q2:IntKind.i64.wrap (((BitVec.ofInt IntKind.i64.bits i &&& BitVec.ofInt IntKind.i64.bits 2).toNat:Nat):Int)=0
  ·repeat' (first|refine pa ?_|(refine pb ?_ ?_<;>intro hg)|refine po ?_|fail)
   exact .inl ⟨rfl,(0,b.aim),(if_neg fun e=>e.1 q2).symm,by (exact ple)⟩
  ·by_cases q1:IntKind.i64.wrap (((BitVec.ofInt IntKind.i64.bits i &&& BitVec.ofInt IntKind.i64.bits 1).toNat:Nat):Int)=0
   ·have n1:(!!decide (IntKind.i64.wrap (((BitVec.ofInt IntKind.i64.bits i &&& BitVec.ofInt IntKind.i64.bits 1).toNat:Nat):Int)=0))=true:=by rw [decide_eq_true q1];rfl
    repeat' (first|refine pa ?_|(refine pb ?_ ?_<;>intro hg)|refine po ?_|fail)
    exact .inl ⟨rfl,(3,1),(if_pos ⟨q2,q1⟩).symm,by (exact ple)⟩
   ·have n1:(!!decide (IntKind.i64.wrap (((BitVec.ofInt IntKind.i64.bits i &&& BitVec.ofInt IntKind.i64.bits 1).toNat:Nat):Int)=0))=false:=by rw [decide_eq_false q1];rfl
    repeat' (first|refine pa ?_|(refine pb ?_ ?_<;>intro hg)|refine po ?_|fail)
    exact .inl ⟨rfl,(0,b.aim),(if_neg fun e=>q1 e.2).symm,by (exact ple)⟩
 rintro ⟨vx,am⟩ hx
 have hx:(vx,am)=ZiV b i:=hx
 refine pln ?_
 repeat' (first|(refine pth ?_)|((fail_if_success (with_reducible show aW _ _ _ (Code.seq (Code.seq (Code.region 13 _ _) _) _) _ _));(fail_if_success (with_reducible show aW _ _ _ (Code.seq (Code.region 13 _ _) _) _ _));(fail_if_success (with_reducible show aW _ _ _ (Code.region 13 _ _) _ _));(first|refine pc ?_|(refine pbc ?_ ?_<;>intro hg)))|(first|refine pl ?_|(refine pbl ?_ ?_<;>intro hg))|(first|refine po ?_)|fail)
 refine aW.seqJ rfl (fun z:Int×Int=>[]) [(2,_),(3,_),(4,_),(6,_)] (fun z:Int×Int=>[(4,1,.box 114 [.t (.int .i64 b.kind),.t (.int .i64 b.owner),.t (.int .i64 b.x),.t (.int .i64 b.y),.t (.int .i64 z.1),.t (.int .i64 b.vy),.t (.int .i64 z.2),.t (.int .i64 b.life),.t (.int .i64 t)])]) [(3,_,_),(6,_,_)] (fun z:Int×Int=>z=Zbo b i) (vx,am) (by (exact plei)) ?_ ?_
 ·by_cases q1:IntKind.i64.wrap (((BitVec.ofInt IntKind.i64.bits i &&& BitVec.ofInt IntKind.i64.bits 1).toNat:Nat):Int)=0
  ·repeat' (first|refine pa ?_|(refine pb ?_ ?_<;>intro hg)|refine po ?_|fail)
   exact .inl ⟨rfl,(vx,am),(by rw [Zha (.inl q1)];exact hx),by (exact ple)⟩
  ·by_cases q2:IntKind.i64.wrap (((BitVec.ofInt IntKind.i64.bits i &&& BitVec.ofInt IntKind.i64.bits 2).toNat:Nat):Int)=0
   ·have n2:(!!decide (IntKind.i64.wrap (((BitVec.ofInt IntKind.i64.bits i &&& BitVec.ofInt IntKind.i64.bits 2).toNat:Nat):Int)=0))=true:=by rw [decide_eq_true q2];rfl
    repeat' (first|refine pa ?_|(refine pb ?_ ?_<;>intro hg)|refine po ?_|fail)
    exact .inl ⟨rfl,(-3,-1),(Zna q1 q2).symm,by (exact ple)⟩
   ·have n2:(!!decide (IntKind.i64.wrap (((BitVec.ofInt IntKind.i64.bits i &&& BitVec.ofInt IntKind.i64.bits 2).toNat:Nat):Int)=0))=false:=by rw [decide_eq_false q2];rfl
    repeat' (first|refine pa ?_|(refine pb ?_ ?_<;>intro hg)|refine po ?_|fail)
    exact .inl ⟨rfl,(vx,am),(by rw [Zha (.inr q2)];exact hx),by (exact ple)⟩
 clear hx
 rintro ⟨vx,am⟩ hx
 have hx:(vx,am)=Zbo b i:=hx
 refine pln ?_
 repeat' (first|(refine pth ?_)|((fail_if_success (with_reducible show aW _ _ _ (Code.seq (Code.seq (Code.region 16 _ _) _) _) _ _));(fail_if_success (with_reducible show aW _ _ _ (Code.seq (Code.region 16 _ _) _) _ _));(fail_if_success (with_reducible show aW _ _ _ (Code.region 16 _ _) _ _));(first|refine pc ?_|(refine pbc ?_ ?_<;>intro hg)))|(first|refine pl ?_|(refine pbl ?_ ?_<;>intro hg))|(first|refine po ?_)|fail)
 refine aW.seqJ rfl (fun z:Int=>[]) [(2,_),(3,_),(4,_),(6,_)] (fun z:Int=>[(4,1,.box 114 [.t (.int .i64 b.kind),.t (.int .i64 b.owner),.t (.int .i64 b.x),.t (.int .i64 b.y),.t (.int .i64 vx),.t (.int .i64 z),.t (.int .i64 am),.t (.int .i64 b.life),.t (.int .i64 t)])]) [(3,_,_),(6,_,_)] (fun z:Int=>z=ZcZ l b i) b.vy (by (exact plei)) ?_ ?_
 ·by_cases q4:IntKind.i64.wrap (((BitVec.ofInt IntKind.i64.bits i &&& BitVec.ofInt IntKind.i64.bits 4).toNat:Nat):Int)=0
  ·repeat' (first|refine pa ?_|(refine pb ?_ ?_<;>intro hg)|(refine Zab (n:=20) ?_;(first|refine Zaa hsz ?_|refine Zaa hso ?_))|refine po ?_|(refine T74d1 ?_)|fail)
   refine .inl ⟨rfl,_,?_,by (exact ple)⟩
   rw [Zhb (.inl q4)]
  ·cases hv:ZaG l b.x (b.y + 1) (Zas b.kind) with
   | true =>
    rw [hv] at hso
    repeat' (first|refine pa ?_|(refine pb ?_ ?_<;>intro hg)|(refine Zab (n:=20) ?_;(first|refine Zaa hsz ?_|refine Zaa hso ?_))|refine po ?_|(refine T74d1 ?_)|fail)
    exact .inl ⟨rfl,-9,(Znb q4 hv).symm,by (exact ple)⟩
   | false =>
    rw [hv] at hso
    repeat' (first|refine pa ?_|(refine pb ?_ ?_<;>intro hg)|(refine Zab (n:=20) ?_;(first|refine Zaa hsz ?_|refine Zaa hso ?_))|refine po ?_|(refine T74d1 ?_)|fail)
    refine .inl ⟨rfl,_,?_,by (exact ple)⟩
    rw [Zhb (.inr hv)]
 rintro vy hvy2
 have hvy2:vy=ZcZ l b i:=hvy2
 have ex:(Zbo b i).1=vx:=(congrArg Prod.fst hx).symm
 have ea:(Zbo b i).2=am:=(congrArg Prod.snd hx).symm
 refine pln ?_
 by_cases q8:IntKind.i64.wrap (((BitVec.ofInt IntKind.i64.bits i &&& BitVec.ofInt IntKind.i64.bits 8).toNat:Nat):Int)=0
 ·rw [Zg9 (.inl q8),ex,ea,← hvy2,← ht]
  repeat' (first|refine pa ?_|(refine pb ?_ ?_<;>intro hg)|refine po ?_|fail)
  exact pfg
 ·by_cases q9:t=0
  ·rw [Zm9 q8 (by rw [← ht];exact q9),ex,ea,← hvy2]
   repeat' (first|refine pa ?_|(refine pb ?_ ?_<;>intro hg)|refine po ?_|fail)
   exact pfg
  ·rw [Zg9 (.inr (by rw [← ht];exact q9)),ex,ea,← hvy2,← ht]
   repeat' (first|refine pa ?_|(refine pb ?_ ?_<;>intro hg)|refine po ?_|fail)
   exact pfg
end Go.Proofs.YthfaongbpdnlnaaGreat
