/- What is proved: contracts on players that are steered, program and reference alike.
   Conditions: the player is valid. -/
import Derived.Test.YthfaongbpdnlnaaGreatT74i
namespace Go.Proofs.YthfaongbpdnlnaaGreat
set_option maxHeartbeats 4000000
set_option maxRecDepth 20000
set_option linter.unusedSimpArgs false
set_option linter.unusedVariables false
open Go.RowKit Ab
theorem Zj8 (l:Lv) (n:Int) (b:Bd) (i:Int) (hl:ZaZ l) (h:ZbF l n b) (hk:b.kind=0) (hf:1≤b.life) (ho:b.owner≤3) (hi:0≤i∧i≤15):AC Tryz.prog 162 [.agg [.t (.lst true 9 (Zai l))],.agg [.t (.int .i64 b.kind),.t (.int .i64 b.owner),.t (.int .i64 b.x),.t (.int .i64 b.y),.t (.int .i64 b.vx),.t (.int .i64 b.vy),.t (.int .i64 b.aim),.t (.int .i64 b.life),.t (.int .i64 b.timer)],.t (.int .i64 i)] (.tup [.agg [.t (.int .i64 (ZaQ l b i).1.kind),.t (.int .i64 (ZaQ l b i).1.owner),.t (.int .i64 (ZaQ l b i).1.x),.t (.int .i64 (ZaQ l b i).1.y),.t (.int .i64 (ZaQ l b i).1.vx),.t (.int .i64 (ZaQ l b i).1.vy),.t (.int .i64 (ZaQ l b i).1.aim),.t (.int .i64 (ZaQ l b i).1.life),.t (.int .i64 (ZaQ l b i).1.timer)],.t (.bool (ZaQ l b i).2)]):=by
 have hlev:Zbc l=true:=ZaU.2 hl
 have hpos:=h.pos
 have hpx:=hpos.x;have hpy:=hpos.y
 have g1:=hl.n12
 have hvy:=h.vy
 have how0:=h.owner.1
 have htm:0≤b.timer∧b.timer≤12:=by rcases h.timer with e|e|e|e<;>omega
 have hsk:Zas b.kind=12:=by rw [hk];rfl
 have hsz:=ZdL b.kind
 have hso:=Zdx l b.x (b.y + 1) (Zas b.kind) (by omega) (by omega)
 refine AC.go Tryz.func162 Tryz.ntmps162 fun B W hr=>?_
 repeat' (first|(refine pth ?_)|((fail_if_success (with_reducible show aW _ _ _ (Code.seq (Code.seq (Code.region 1 _ _) _) _) _ _));(fail_if_success (with_reducible show aW _ _ _ (Code.seq (Code.region 1 _ _) _) _ _));(fail_if_success (with_reducible show aW _ _ _ (Code.region 1 _ _) _ _));(first|refine pc ?_|(refine pbc ?_ ?_<;>intro hg)))|(first|refine pl ?_|(refine pbl ?_ ?_<;>intro hg))|(first|refine po ?_)|fail)
 refine aW.seqJ rfl (fun z:Int=>[]) [(2,_),(3,_),(4,_),(6,_)] (fun z:Int=>[(4,1,.box 114 [.t (.int .i64 b.kind),.t (.int .i64 b.owner),.t (.int .i64 b.x),.t (.int .i64 b.y),.t (.int .i64 b.vx),.t (.int .i64 b.vy),.t (.int .i64 b.aim),.t (.int .i64 b.life),.t (.int .i64 z)])]) [(3,_,_),(6,_,_)] (fun z:Int=>z=Zff b.timer) b.timer (by (exact plei)) ?_ ?_
 ·by_cases ht:0 < b.timer
  ·repeat' (first|refine pa ?_|(refine pb ?_ ?_<;>intro hg)|refine po ?_|fail)
   exact .inl ⟨rfl,b.timer - 1,(by unfold Zff;rw [if_pos ht]),by (exact ple)⟩
  ·repeat' (first|refine pa ?_|(refine pb ?_ ?_<;>intro hg)|refine po ?_|fail)
   exact .inl ⟨rfl,b.timer,(by unfold Zff;rw [if_neg ht]),by (exact ple)⟩
 rintro t ht
 have ht:t=Zff b.timer:=ht
 have htc:0≤t∧t≤12:=by rw [ht];exact ZlZ htm
 refine pln ?_
 repeat' (first|(refine pth ?_)|((fail_if_success (with_reducible show aW _ _ _ (Code.seq (Code.seq (Code.region 4 _ _) _) _) _ _));(fail_if_success (with_reducible show aW _ _ _ (Code.seq (Code.region 4 _ _) _) _ _));(fail_if_success (with_reducible show aW _ _ _ (Code.region 4 _ _) _ _));(first|refine pc ?_|(refine pbc ?_ ?_<;>intro hg)))|(first|refine pl ?_|(refine pbl ?_ ?_<;>intro hg))|(first|refine po ?_)|fail)
 refine aW.seqJ rfl (fun z:Int×Int=>[]) [(2,_),(3,_),(4,_),(6,_)] (fun z:Int×Int=>[(4,1,.box 114 [.t (.int .i64 b.kind),.t (.int .i64 b.owner),.t (.int .i64 b.x),.t (.int .i64 b.y),.t (.int .i64 z.1),.t (.int .i64 b.vy),.t (.int .i64 z.2),.t (.int .i64 b.life),.t (.int .i64 t)])]) [(3,_,_),(6,_,_)] (fun z:Int×Int=>z=ZiV b i) (0,b.aim) (by (exact plei)) ?_ ?_
 ·by_cases q2:IntKind.i64.wrap (((BitVec.ofInt IntKind.i64.bits i &&& BitVec.ofInt IntKind.i64.bits 2).toNat:Nat):Int)=0
  ·repeat' (first|refine pa ?_|(refine pb ?_ ?_<;>intro hg)|refine po ?_|fail)
   exact .inl ⟨rfl,(0,b.aim),(if_neg fun e=>e.1 q2).symm,by (exact ple)⟩
  ·by_cases q1:IntKind.i64.wrap (((BitVec.ofInt IntKind.i64.bits i &&& BitVec.ofInt IntKind.i64.bits 1).toNat:Nat):Int)=0
   ·have n1:(!!decide (IntKind.i64.wrap (((BitVec.ofInt IntKind.i64.bits i &&& BitVec.ofInt IntKind.i64.bits 1).toNat:Nat):Int)=0))=true:=by rw [decide_eq_true q1];rfl
    repeat' (first|refine pa ?_|(refine pb ?_ ?_<;>intro hg)|refine po ?_|fail)
    exact .inl ⟨rfl,(3,1),(if_pos ⟨q2,q1⟩).symm,by (exact ple)⟩
   ·have n1:(!!decide (IntKind.i64.wrap (((BitVec.ofInt IntKind.i64.bits i &&& BitVec.ofInt IntKind.i64.bits 1).toNat:Nat):Int)=0))=false:=by rw [decide_eq_false q1];rfl
    repeat' (first|refine pa ?_|(refine pb ?_ ?_<;>intro hg)|refine po ?_|fail)
    exact .inl ⟨rfl,(0,b.aim),(if_neg fun e=>q1 e.2).symm,by (exact ple)⟩
 rintro ⟨vx,am⟩ hx
 have hx:(vx,am)=ZiV b i:=hx
 refine pln ?_
 repeat' (first|(refine pth ?_)|((fail_if_success (with_reducible show aW _ _ _ (Code.seq (Code.seq (Code.region 7 _ _) _) _) _ _));(fail_if_success (with_reducible show aW _ _ _ (Code.seq (Code.region 7 _ _) _) _ _));(fail_if_success (with_reducible show aW _ _ _ (Code.region 7 _ _) _ _));(first|refine pc ?_|(refine pbc ?_ ?_<;>intro hg)))|(first|refine pl ?_|(refine pbl ?_ ?_<;>intro hg))|(first|refine po ?_)|fail)
 refine aW.seqJ rfl (fun z:Int×Int=>[]) [(2,_),(3,_),(4,_),(6,_)] (fun z:Int×Int=>[(4,1,.box 114 [.t (.int .i64 b.kind),.t (.int .i64 b.owner),.t (.int .i64 b.x),.t (.int .i64 b.y),.t (.int .i64 z.1),.t (.int .i64 b.vy),.t (.int .i64 z.2),.t (.int .i64 b.life),.t (.int .i64 t)])]) [(3,_,_),(6,_,_)] (fun z:Int×Int=>z=Zbo b i) (vx,am) (by (exact plei)) ?_ ?_
 ·by_cases q1:IntKind.i64.wrap (((BitVec.ofInt IntKind.i64.bits i &&& BitVec.ofInt IntKind.i64.bits 1).toNat:Nat):Int)=0
  ·repeat' (first|refine pa ?_|(refine pb ?_ ?_<;>intro hg)|refine po ?_|fail)
   exact .inl ⟨rfl,(vx,am),(by rw [Zha (.inl q1)];exact hx),by (exact ple)⟩
  ·by_cases q2:IntKind.i64.wrap (((BitVec.ofInt IntKind.i64.bits i &&& BitVec.ofInt IntKind.i64.bits 2).toNat:Nat):Int)=0
   ·have n2:(!!decide (IntKind.i64.wrap (((BitVec.ofInt IntKind.i64.bits i &&& BitVec.ofInt IntKind.i64.bits 2).toNat:Nat):Int)=0))=true:=by rw [decide_eq_true q2];rfl
    repeat' (first|refine pa ?_|(refine pb ?_ ?_<;>intro hg)|refine po ?_|fail)
    exact .inl ⟨rfl,(-3,-1),(Zna q1 q2).symm,by (exact ple)⟩
   ·have n2:(!!decide (IntKind.i64.wrap (((BitVec.ofInt IntKind.i64.bits i &&& BitVec.ofInt IntKind.i64.bits 2).toNat:Nat):Int)=0))=false:=by rw [decide_eq_false q2];rfl
    repeat' (first|refine pa ?_|(refine pb ?_ ?_<;>intro hg)|refine po ?_|fail)
    exact .inl ⟨rfl,(vx,am),(by rw [Zha (.inr q2)];exact hx),by (exact ple)⟩
 clear hx
 rintro ⟨vx,am⟩ hx
 have hx:(vx,am)=Zbo b i:=hx
 refine pln ?_
 repeat' (first|(refine pth ?_)|((fail_if_success (with_reducible show aW _ _ _ (Code.seq (Code.seq (Code.region 10 _ _) _) _) _ _));(fail_if_success (with_reducible show aW _ _ _ (Code.seq (Code.region 10 _ _) _) _ _));(fail_if_success (with_reducible show aW _ _ _ (Code.region 10 _ _) _ _));(first|refine pc ?_|(refine pbc ?_ ?_<;>intro hg)))|(first|refine pl ?_|(refine pbl ?_ ?_<;>intro hg))|(first|refine po ?_)|fail)
 refine aW.seqJ rfl (fun z:Int=>[]) [(2,_),(3,_),(4,_),(6,_)] (fun z:Int=>[(4,1,.box 114 [.t (.int .i64 b.kind),.t (.int .i64 b.owner),.t (.int .i64 b.x),.t (.int .i64 b.y),.t (.int .i64 vx),.t (.int .i64 z),.t (.int .i64 am),.t (.int .i64 b.life),.t (.int .i64 t)])]) [(3,_,_),(6,_,_)] (fun z:Int=>z=ZcZ l b i) b.vy (by (exact plei)) ?_ ?_
 ·by_cases q4:IntKind.i64.wrap (((BitVec.ofInt IntKind.i64.bits i &&& BitVec.ofInt IntKind.i64.bits 4).toNat:Nat):Int)=0
  ·repeat' (first|refine pa ?_|(refine pb ?_ ?_<;>intro hg)|(refine Zab (n:=20) ?_;(first|refine Zaa hsz ?_|refine Zaa hso ?_))|refine po ?_|(refine T74d2 ?_)|fail)
   refine .inl ⟨rfl,_,?_,by (exact ple)⟩
   rw [Zhb (.inl q4)]
  ·cases hv:ZaG l b.x (b.y + 1) (Zas b.kind) with
   | true =>
    rw [hv] at hso
    repeat' (first|refine pa ?_|(refine pb ?_ ?_<;>intro hg)|(refine Zab (n:=20) ?_;(first|refine Zaa hsz ?_|refine Zaa hso ?_))|refine po ?_|(refine T74d2 ?_)|fail)
    exact .inl ⟨rfl,-9,(Znb q4 hv).symm,by (exact ple)⟩
   | false =>
    rw [hv] at hso
    repeat' (first|refine pa ?_|(refine pb ?_ ?_<;>intro hg)|(refine Zab (n:=20) ?_;(first|refine Zaa hsz ?_|refine Zaa hso ?_))|refine po ?_|(refine T74d2 ?_)|fail)
    refine .inl ⟨rfl,_,?_,by (exact ple)⟩
    rw [Zhb (.inr hv)]
 rintro vy hvy2
 have hvy2:vy=ZcZ l b i:=hvy2
 have ex:(Zbo b i).1=vx:=(congrArg Prod.fst hx).symm
 have ea:(Zbo b i).2=am:=(congrArg Prod.snd hx).symm
 refine pln ?_
 by_cases q8:IntKind.i64.wrap (((BitVec.ofInt IntKind.i64.bits i &&& BitVec.ofInt IntKind.i64.bits 8).toNat:Nat):Int)=0
 ·rw [Zg9 (.inl q8),ex,ea,← hvy2,← ht]
  repeat' (first|refine pa ?_|(refine pb ?_ ?_<;>intro hg)|refine po ?_|fail)
  exact pfg
 ·by_cases q9:t=0
  ·rw [Zm9 q8 (by rw [← ht];exact q9),ex,ea,← hvy2]
   repeat' (first|refine pa ?_|(refine pb ?_ ?_<;>intro hg)|refine po ?_|fail)
   exact pfg
  ·rw [Zg9 (.inr (by rw [← ht];exact q9)),ex,ea,← hvy2,← ht]
   repeat' (first|refine pa ?_|(refine pb ?_ ?_<;>intro hg)|refine po ?_|fail)
   exact pfg
end Go.Proofs.YthfaongbpdnlnaaGreat
