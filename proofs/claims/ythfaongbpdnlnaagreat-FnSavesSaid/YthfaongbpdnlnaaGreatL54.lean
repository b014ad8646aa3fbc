/- What is proved: the statement FnSaves: every saved world is the one that was there, and going back and forward again changes nothing.
   Conditions: none. -/
import Derived.Test.YthfaongbpdnlnaaGreatV23ud
import Derived.Test.YthfaongbpdnlnaaGreatT100uc
import Derived.Test.YthfaongbpdnlnaaGreatT105
namespace Go.Proofs.YthfaongbpdnlnaaGreat
set_option maxHeartbeats 4000000
set_option maxRecDepth 100000
set_option linter.unusedSimpArgs false
set_option linter.unusedVariables false
open Go.RowKit Ab
theorem Zvx {t p a:Int} {w:Wd} {us:TS} {k:Nat} (hk:k < us.length):ZbA (ZbY (runF t p a w (us.take k)) (us.getD k default)) (runF t p a w (us.take k)) t p a=runF t p a w (us.take (k + 1)):=by
 rw [List.take_succ_eq_append_getElem hk,Zm1,Zb6 hk]
 rfl
theorem Zvv {p:Pr} {t:Int} {w:Wd} (h:Zst p):Zst (ZhB p t w):=fun k hk=>by
 have hk':k < (p.used.take (t - p.base.tick).toNat).length:=hk
 rw [List.length_take] at hk'
 show (p.used.take _).getD k default=_
 rw [getD_take (by omega)]
 exact h k (by omega)
theorem Zvw {p:Pr} {t:Int} (h:Zic p) (ht:t=p.base.tick + (p.used.length:Int)):Zcv p t=none:=by
 have h1:=h.used
 have h2:=h.saves
 exact ZoU (ZhX fun e=>by have:=e.2.2;omega)
theorem Zvr (xs:List Int):AC Tryz.prog 9 [.t (.lst true 5 (Zsm xs))] (.t (.bool true)):=by
 have hb:=Zvt xs
 by_cases hbig:1048576 < (xs.length:Int)
 ·rw [decide_eq_true hbig] at hb
  refine AC.go Tryz.func9 Tryz.ntmps9 fun B W hr=>?_
  repeat' (first|refine pa ?_|(refine pb ?_ ?_<;>intro hg)|(refine Zab (n:=20) ?_;(first|refine Zaa hb ?_))|refine po ?_|fail)
  exact pfr
 rw [decide_eq_false hbig] at hb
 have hxl:xs.length≤1048576:=by omega
 have h0:=ZvF xs 0 (by omega)
 refine AC.go Tryz.func9 Tryz.ntmps9 fun B W hr=>?_
 obtain ⟨us,hus⟩:=hr
 obtain ⟨_,hcode⟩:=Zvq (ZaR hus (i:=0) rfl)
 clear hus
 have b0:=Zwd hcode 0
 repeat' (first|refine pa ?_|(refine pb ?_ ?_<;>intro hg)|(refine Zab (n:=20) ?_;(first|refine Zaa hb ?_|(refine Zp4 (m:=[]) (ZtD xs hxl) (fun p hp=>?_);refine pmk ?_)))|refine po ?_|fail)
 have hd:=hp.1
 have hg:=hd.good
 have hrt:=hd.right
 have hpp:=hg.ok
 have hpl:=hp.len
 have hbt:=hpp.base.tick
 have hnt:=hpp.now.tick
 have hue:=hpp.used
 have hse:=hpp.saves
 have hld:=hpp.lead
 have hah:=hpp.ahead
 have hul:(p.used.map trackC).length=p.used.length:=List.length_map _
 refine aW.loopF rfl (fun q:Int×Nat×Wd=>[(5,.t (.int .i64 q.1))]) [(0,_),(3,_),(4,_)] (fun q=>[(4,1,.box 30 [.t (.lst true 9 (Zai q.2.2.level)),.t (.int .i64 q.2.2.tick),.t (.int .i64 q.2.2.seed),.t (ints 3 q.2.2.scores),.t (.lst true 114 (q.2.2.bodies.map bodyC)) ])]) [(3,_,_)] (fun q=>q.1=p.base.tick + (q.2.1:Int)∧q.2.1≤p.used.length∧q.2.2=runF p.ft p.fp p.fa p.base (p.used.take q.2.1)) (fun q=>p.used.length - q.2.1) (p.base.tick,0,p.base) ⟨by show p.base.tick=p.base.tick + ((0:Nat):Int);omega,Nat.zero_le _,rfl⟩ (by (exact plei)) ?_
 rintro ⟨t,k,w⟩ hI
 obtain ⟨ht,hk,hw⟩:t=p.base.tick + (k:Int)∧k≤p.used.length∧w=runF p.ft p.fp p.fa p.base (p.used.take k):=hI
 have hwp:ZaV w:=by rw [hw];exact (Zt1 hg k hk).1
 obtain ⟨l1,l2,l3⟩:=Zee hwp
 refine pln ?_
 by_cases hkl:k < p.used.length
 ·have hsa:=Ziy p t hpl hp.2 _ rfl
  have e:=ZsC hg (t:=t) (by omega) (by omega)
  rw [show (t - p.base.tick).toNat=k by omega,← hw] at e
  rw [e] at hsa
  dsimp only [Option.getD_some,Option.isSome_some] at hsa
  have hsw:=Ztv w l3
  have hfs:=Zio w (p.used.getD k default) p.ft p.fp p.fa l1 l2 l3 _ rfl
  have hnx:=Zvx (t:=p.ft) (p:=p.fp) (a:=p.fa) (w:=p.base) hkl
  rw [← hw] at hnx
  generalize ZbA (ZbY w (p.used.getD k default)) w p.ft p.fp p.fa=w2 at hfs hnx
  have hix:t - p.base.tick=(k:Int):=by omega
  clear hw hwp e
  repeat' (first|refine pa ?_|(refine pb ?_ ?_<;>intro hg)|refine ZnM ?_|(refine Zab (n:=20) ?_;(first|refine Zaa hsw ?_|refine Zc5 hsa ?_|refine Zc5 hfs ?_))|refine po ?_|(refine pdr [3] 14 (by (apply pct 14 16383 0;(focus (intro hd3;(apply pct 14 8191 1;(focus (intro hd2;(apply pct 14 4095 2;(focus (intro hd1;(refine ZaC 1 ?_<;>refine pt7_ 2 ?_<;>refine pt0_ 3 ?_<;>refine ZaC 4 ?_<;>refine ZaC 5 ?_<;>refine pt7_ 6 ?_<;>refine Zbh 7 ?_<;>(refine pti 8 ?_;(first|refine ZrQ ?_|refine pq17 ?_))<;>refine pt7_ 9 ?_<;>refine ZaC 10 ?_<;>refine pt7_ 11 ?_<;>(refine pq1 0 ?_;(focus ((refine pop ?_;refine pk7 ?_)<;>(exact ptm hd1)))))));(case main=>((refine pq1 12 ?_;(focus ((refine pop ?_;(refine Zab (n:=20) ?_;(first|refine Zc5 hfs ?_)))<;>(exact ptm hd2)))))))));(case main=>((refine pq1 13 ?_;(focus ((refine pop ?_;refine pk8 ?_)<;>(exact ptm hd3)))))))));(case main=>((refine ZaI ?_;exact ZaJ))))) ?_)|fail)
  exact ⟨(t + 1,k + 1,w2),⟨by show t + 1=p.base.tick + ((k + 1:Nat):Int);omega,hkl,hnx⟩,by show p.used.length - (k + 1) < p.used.length - k;omega,by (exact ple)⟩
 obtain rfl:k=p.used.length:=by omega
 rw [List.take_length,← hg.now] at hw
 subst hw
 have hsw:=Ztv p.now l3
 have hrep:=ZrM p hpl hp.2 _ rfl
 obtain ⟨q1,r1,_,_,_,_,r6⟩:=ZtZ hg
 obtain rfl:=r6 hrt
 rw [r1] at hrep
 dsimp only [Option.getD_some,Option.isSome_some] at hrep
 have htm:(atV xs 0).tmod ((q1.used.length:Int) + 1)=atV xs 0 % ((q1.used.length:Int) + 1):=Int.tmod_eq_emod_of_nonneg b0.1
 have m1:0≤atV xs 0 % ((q1.used.length:Int) + 1):=Int.emod_nonneg _ (by omega)
 have m2:atV xs 0 % ((q1.used.length:Int) + 1) < (q1.used.length:Int) + 1:=Int.emod_lt_of_pos _ (by omega)
 obtain ⟨m,hm⟩:∃ m:Nat,(atV xs 0).tmod ((q1.used.length:Int) + 1)=(m:Int):=⟨(atV xs 0 % ((q1.used.length:Int) + 1)).toNat,by rw [htm];omega⟩
 have hmu:m≤q1.used.length:=by omega
 repeat' (first|(refine pth ?_)|((fail_if_success (with_reducible show aW _ _ _ (Code.seq (Code.seq (Code.region 16 _ _) _) _) _ _));(fail_if_success (with_reducible show aW _ _ _ (Code.seq (Code.region 16 _ _) _) _ _));(fail_if_success (with_reducible show aW _ _ _ (Code.region 16 _ _) _ _));(first|refine pc ?_|(refine pbc ?_ ?_<;>intro hg)))|(first|refine pl ?_|(refine pbl ?_ ?_<;>intro hg))|(first|(refine Zab (n:=20) ?_;(first|refine Zaa hsw ?_|refine Zaa h0 ?_|refine Zc5 hrep ?_))|refine po ?_)|((apply pdq 12;(focus exact pdp);(focus ((apply pct 12 511 3;(focus (intro hd1;(refine ZaC 0 ?_<;>refine ZaC 1 ?_<;>refine pt7_ 2 ?_<;>refine pt0_ 3 ?_<;>refine ZaC 5 ?_<;>refine pt7_ 6 ?_<;>refine Ziv 7 ?_<;>refine Zbh 8 ?_<;>(refine pq1 4 ?_;(focus ((refine pop ?_;(refine Zab (n:=20) ?_;(first|refine Zaa h0 ?_)))<;>(exact ptm hd1)))))));(case main=>(refine Zbh 9 ?_<;>refine Zbh 10 ?_<;>refine pt1_ 11 ?_<;>(refine ZaI ?_;exact ZaJ))))))))|fail)
 rw [hm]
 clear htm m1 m2 hm h0 b0 hcode hb
 have hrl:=Znq q1 (q1.base.tick + (m:Int)) hpl hp.2 _ rfl
 by_cases hml:m=q1.used.length
 ·rw [Zvw hpp (by omega)] at hrl
  dsimp only [Option.getD_none,Option.isSome_none] at hrl
  repeat' (first|refine pa ?_|(refine pb ?_ ?_<;>intro hg)|(refine Zab (n:=20) ?_;(first|refine Zc5 hrl ?_))|refine po ?_|fail)
  exact pfr
 obtain ⟨q0,s1,s2,s3,s4⟩:=ZuJ hg (t:=q1.base.tick + (m:Int)) (by omega) (by omega)
 rw [s1] at hrl
 dsimp only [Option.getD_some,Option.isSome_some] at hrl
 have hr0:Zst q0:=by rw [s3];exact Zvv hrt
 have hk0:Kept q1 q0:=by rw [s3];exact Zu0 _ _ _
 have hl0:Zeq q0:=Zp3 s2.ok
 have hd0:Zc0 q0:=ZrF hp.2 s1
 have hmine:=hpp.mine
 obtain ⟨Q,t1,t2,t3,t4,t5⟩:=Ztn (T:=q1.now.tick) s2 (by omega) (by rw [hk0.base,hk0.ahead];omega) (by rw [hk0.tracks,hk0.me];exact hmine) rfl
 have hkQ:=hk0.trans t4
 have hrQ:=t5 hr0
 obtain ⟨_,u2,_⟩:=Zvu hg t2 hrt hrQ hkQ.tracks ⟨hkQ.ft,hkQ.fp,hkQ.fa⟩ (by rw [hkQ.base]) t3
 have hfw1:=ZqH q1 hpl
 rw [Zta hpp hrt] at hfw1
 have hfwQ:=ZqH Q (Zp3 t2.ok)
 rw [Zta t2.ok hrQ] at hfwQ
 rw [show q0.now.tick=q1.base.tick + (m:Int) from s4] at t1
 rw [← s4] at t1
 clear s3 s4 hk0 hr0 hkQ t4 t5 hrQ hrt
 repeat' (first|refine pa ?_|(refine pb ?_ ?_<;>intro hg)|(refine Zab (n:=20) ?_;(first|refine Zc5 hrl ?_))|refine po ?_|fail)
 refine aW.loopF rfl (fun q:Pr=>[(12,.t (.bool true))]) [(9,_),(8,_),(11,_)] (fun q=>[(11,1,.box 40 [.t (.int .i64 q.me),.t (.int .i64 q.delay),.t (.int .i64 q.ahead),.t (.int .i64 q.seed),.t (.lst false 46 (q.tracks.map trackC)),.t (.lst true 9 (Zai q.base.level)),.t (.int .i64 q.base.tick),.t (.int .i64 q.base.seed),.t (ints 3 q.base.scores),.t (.lst true 114 (q.base.bodies.map bodyC)),.t (.lst true 9 (Zai q.now.level)),.t (.int .i64 q.now.tick),.t (.int .i64 q.now.seed),.t (ints 3 q.now.scores),.t (.lst true 114 (q.now.bodies.map bodyC)),.t (.lst false 27 (q.used.map trackC)),.t (.lst true 100 (q.saves.map saveC)),.t (ints 3 q.sums),.t (.int .i64 q.ft),.t (.int .i64 q.fp),.t (.int .i64 q.fa),.t (.int .i64 q.rolls),.t (.int .i64 q.again)])]) [(8,_,_)] (fun q=>Zqm (q1.now.tick - q.now.tick).toNat q1.now.tick q=some Q∧Zeq q∧Zc0 q) (fun q=>(q1.now.tick - q.now.tick).toNat) q0 ⟨t1,hl0,hd0⟩ (by (exact plei)) ?_
 rintro q hI
 obtain ⟨hq,hql,hqd⟩:Zqm (q1.now.tick - q.now.tick).toNat q1.now.tick q=some Q∧Zeq q∧Zc0 q:=hI
 refine pln ?_
 have had:=Zre q hql hqd _ rfl
 by_cases hlt:q.now.tick < q1.now.tick
 ·cases ha:ZpB q with
  | none=>rw [Zrq hlt ha] at hq;cases hq
  | some r =>
   rw [Zrr hlt ha] at hq
   rw [ha] at had
   have hrt2:=(Zqr ha).2.1
   dsimp only [Option.getD_some,Option.isSome_some] at had
   repeat' (first|refine pa ?_|(refine pb ?_ ?_<;>intro hg)|(refine Zab (n:=20) ?_;(first|refine Zc5 had ?_))|refine po ?_|fail)
   exact ⟨r,⟨hq,ZqY hql ha,ZqX hqd ha⟩,by show (q1.now.tick - r.now.tick).toNat < (q1.now.tick - q.now.tick).toNat;omega,by (exact ple)⟩
 ·rw [Zrp hlt] at hq
  cases hq
  rw [u2] at hfwQ
  rw [u2]
  repeat' (first|refine pa ?_|(refine pb ?_ ?_<;>intro hg)|(refine Zab (n:=20) ?_;(first|refine Zaa hsw ?_|refine Zaa hfw1 ?_|refine Zaa hfwQ ?_))|refine po ?_|fail)
  exact pfr
theorem Zvs (xs:(TY.slice 5 (.int .u8)).V):AC Tryz.prog 9 [TY.arg (.slice 5 (.int .u8)) xs] (.t (.bool true)):=Zvr xs
open Go.ChangeShapes Go.WideShapes
theorem Zvo (os:Os) (started:os.Started) (H:Type) (enc:TypeId×Value→H) :
  ReturnsInHanded {} Tryz.checked os 9 .any (Rows.fnSavesSpec.pre6 enc Tryz.prog Tryz.f9 Rows.fnSavesRow.domain false) (Rows.fnSavesSpec.post enc Tryz.prog Tryz.f9 false true false false):=by
 refine ZjB (C:=Tryz.checked) Tryz.own started (by kernel_rfl) Tryz.func9 Tryz.laidOut (by kernel_rfl) (tb:=4) rfl Tryz.underlying4 rfl ?_
  (ChangeSpec.witness6 (enc:=enc) (C:=Tryz.checked) false ⟨#[],#[.slice none 0 0],[]⟩ 8 (by kernel_rfl) (by kernel_rfl) (by kernel_rfl) (by kernel_rfl)) ?_
 ·intro W vs ds ps hA
  have hA:DataW.TrodAll enc Tryz.prog W 0 (fun _=>true) true Tryz.f9.params.toList vs ds ps:=hA
  rw [Tryz.params9] at hA
  obtain ⟨v0,vs0,d0,ds0,p0,q0,rfl,rfl,rfl,h0,r0⟩:=trodAll_cons hA
  obtain ⟨rfl,rfl,rfl⟩:=trodAll_nil r0
  rfl
 ·intro W base args ds p hok0 hA hlt
  have hA:DataW.TrodAll enc Tryz.prog W 0 (fun _=>true) true Tryz.f9.params.toList args.toList ds p:=hA
  have hok:∀ (j:Nat) t v,Tryz.f9.params[j]?=some t→args[j]?=some v→Value.okWide Tryz.prog W .any base t v:=hok0
  clear hok0
  rw [Tryz.params9] at hA hok
  obtain ⟨args⟩:=args
  obtain ⟨v0,vs0,d0,ds0,p0,q0,hv0,rfl,rfl,h0,r0⟩:=trodAll_cons hA
  have hv0:args=v0 :: vs0:=hv0;subst hv0
  obtain ⟨rfl,rfl,rfl⟩:=trodAll_nil r0
  obtain ⟨cs0,y0,g0,rfl⟩:=Ze3 (T:=(.slice 5 (.int .u8))) (by kernel_rfl) (hok 0 _ _ rfl rfl) h0
  clear hok hA hlt
  exact ZoH (Zvs y0) (Ab.Pw.cons (ZiB (t:=(.slice 5 (.int .u8))) (by kernel_rfl) g0 rfl) Ab.Pw.nil)
theorem Zvn:joinedFacts Tryz.prog 9 Tryz.f9 Rows.fnSavesSpec Rows.fnSavesRow=true:=by
 simp only [joinedFacts,Bool.and_eq_true]
 exact ⟨⟨⟨⟨⟨⟨⟨⟨⟨⟨⟨⟨⟨⟨⟨⟨⟨⟨⟨⟨⟨⟨⟨⟨⟨⟨⟨⟨⟨⟨⟨(by as_aux_lemma=>kernel_rfl),(by as_aux_lemma=>kernel_rfl)⟩,(by as_aux_lemma=>kernel_rfl)⟩,(by as_aux_lemma=>kernel_rfl)⟩,(by as_aux_lemma=>kernel_rfl)⟩,(by as_aux_lemma=>kernel_rfl)⟩,(by as_aux_lemma=>kernel_rfl)⟩,(by as_aux_lemma=>kernel_rfl)⟩,(by as_aux_lemma=>kernel_rfl)⟩,(by as_aux_lemma=>kernel_rfl)⟩,(by as_aux_lemma=>kernel_rfl)⟩,(by as_aux_lemma=>kernel_rfl)⟩,(by as_aux_lemma=>kernel_rfl)⟩,(by as_aux_lemma=>kernel_rfl)⟩,(by as_aux_lemma=>kernel_rfl)⟩,(by as_aux_lemma=>kernel_rfl)⟩,(by as_aux_lemma=>kernel_rfl)⟩,(by as_aux_lemma=>kernel_rfl)⟩,(by as_aux_lemma=>kernel_rfl)⟩,(by as_aux_lemma=>kernel_rfl)⟩,(by as_aux_lemma=>kernel_rfl)⟩,(by as_aux_lemma=>kernel_rfl)⟩,(by as_aux_lemma=>kernel_rfl)⟩,(by as_aux_lemma=>kernel_rfl)⟩,(by as_aux_lemma=>kernel_rfl)⟩,Tryz.mayEnter⟩,(ZhJ Tryz.liftsFinal)⟩,(Zl5 Tryz.make)⟩,(by as_aux_lemma=>kernel_rfl)⟩,(by as_aux_lemma=>kernel_rfl)⟩,(by as_aux_lemma=>kernel_rfl)⟩,(by as_aux_lemma=>kernel_rfl)⟩
theorem FnSaves_holds:Rows.FnSavesSaid :=
 OpenClaim.holds_of_wide 9 Tryz.f9 rfl rfl rfl rfl rfl rfl rfl ⟨rfl,rfl,rfl,rfl,rfl⟩ rfl rfl rfl rfl rfl (by kernel_rfl) Tryz.func9 Zvn
  (of_decide_eq_true (by kernel_rfl)) (by unfold Func.isWrapper;first|(rw [if_pos (by decide +kernel)];kernel_rfl)|(rw [if_neg (by decide +kernel)];exact ⟨rfl,rfl⟩))
  (fun os started H enc _=>Zvo os started H enc)
end Go.Proofs.YthfaongbpdnlnaaGreat
