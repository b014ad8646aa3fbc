/- What is proved: the statement FnSums: a peer keeps the sums of all confirmed worlds, which can be played again from the beginning.
   Conditions: none. -/
import Derived.Test.YthfaongbpdnlnaaGreatV28uc
import Derived.Test.YthfaongbpdnlnaaGreatT105
namespace Go.Proofs.YthfaongbpdnlnaaGreat
set_option maxHeartbeats 4000000
set_option maxRecDepth 100000
set_option linter.unusedSimpArgs false
set_option linter.unusedVariables false
open Go.RowKit Ab
theorem L53d1 {X Y:Prop} (h:Y) (r:Hld Y→X:=by intro h;(apply pdq 36;(focus exact pdp);(focus ((apply pct 36 32767 21;(focus (intro hd2;(apply pct 36 15 32;(focus (intro hd1;(refine pt7_ 0 ?_<;>refine ZaC 1 ?_<;>refine pt7_ 2 ?_<;>(refine pq1 3 ?_;(focus ((refine pop ?_;(refine Zab (n:=20) ?_;(first|refine Zaa hsw ?_)))<;>(exact ptm hd1)))))));(case main=>(refine pt0_ 4 ?_<;>refine pg0_ 5 ?_<;>refine ZnK 6 ?_<;>refine pg0_ 7 ?_<;>refine ZaK 8 ?_<;>refine pg7_ 9 ?_<;>refine ZaK 10 ?_<;>refine pg7_ 11 ?_<;>refine ZaK 12 ?_<;>refine pg7_ 13 ?_<;>(refine pq1 14 ?_;(focus ((first|(refine pog ?_;(refine Zab (n:=20) ?_;(first|refine Zaa hgb ?_)))|refine pon ?_)<;>(exact ptm hd2)))))))));(case main=>(refine ZcA 15 ?_<;>refine pg0_ 16 ?_<;>refine ZaK 17 ?_<;>refine pg7_ 18 ?_<;>refine ZaK 19 ?_<;>refine pg7_ 20 ?_<;>refine ZcA 21 ?_<;>refine pg2_ 22 ?_<;>refine pg2_ 23 ?_<;>refine pt2_ 24 ?_<;>refine pt0_ 25 ?_<;>refine ZaK 26 ?_<;>refine pg7_ 27 ?_<;>refine ZkT 28 ?_<;>refine ZaK 29 ?_<;>refine ZaK 30 ?_<;>refine pg7_ 31 ?_<;>refine ZcA 32 ?_<;>refine ZcA 33 ?_<;>refine pt2_ 34 ?_<;>refine pt1_ 35 ?_<;>(refine ZaI ?_;exact ZaJ)))))));exact h.out):X:=r ⟨h⟩
theorem Zuz (xs:List Int):AC Tryz.prog 7 [.t (.lst true 5 (Zsm xs))] (.t (.bool true)):=by
 have hb:=Zvt xs
 by_cases hbig:1048576 < (xs.length:Int)
 ·rw [decide_eq_true hbig] at hb
  refine AC.go Tryz.func7 Tryz.ntmps7 fun B W hr=>?_
  repeat' (first|refine pa ?_|(refine pb ?_ ?_<;>intro hg)|(refine Zab (n:=20) ?_;(first|refine Zaa hb ?_))|refine po ?_|fail)
  exact pfr
 rw [decide_eq_false hbig] at hb
 have hxl:xs.length≤1048576:=by omega
 refine AC.go Tryz.func7 Tryz.ntmps7 fun B W hr=>?_
 repeat' (first|refine pa ?_|(refine pb ?_ ?_<;>intro hg)|(refine Zab (n:=20) ?_;(first|refine Zaa hb ?_|(refine Zp4 (m:=[]) (ZtD xs hxl) (fun p hp=>?_);refine pmk ?_)))|refine po ?_|fail)
 have hd:=hp.1
 have hpp:=hd.good.ok
 have hpl:=hp.len
 have hsm:=hpp.sums
 have hbt:=hpp.base.tick
 have hsl:=Zal p.sums
 obtain ⟨n,hn⟩:=Int.eq_ofNat_of_zero_le hbt.1
 refine aW.loopF rfl (fun q:Nat=>[(4,.t (.int .i64 q))]) [(3,_)] (fun q=>[]) [(3,_,_)] (fun q=>q≤n + 1) (fun q=>n + 1 - q) 0 (Nat.zero_le _) (by (exact plei)) ?_
 rintro k hk
 replace hk:k≤n + 1:=hk
 refine pln ?_
 by_cases hkn:k≤n
 ·obtain ⟨w1,w2,w3,w4,w5,w6,w7⟩:=ZuO hd (k:=k) (by omega)
  have hrp:=ZjW p k hpl hp.2 _ rfl
  rw [ZsR hd (by omega)] at hrp
  dsimp only [Option.getD_some,Option.isSome_some] at hrp
  have hgt:=ZuA p.sums k w7
  rw [w5] at hgt
  generalize Ztk p k=w at hrp hgt w2
  have hws:=Zrx w
  generalize Zgm w=ws at hgt hws
  repeat' (first|refine pa ?_|(refine pb ?_ ?_<;>intro hg)|(refine Zab (n:=20) ?_;(first|refine Zaa hgt ?_|refine Zaa hws ?_|refine Zc5 hrp ?_))|refine po ?_|((apply pdq 17;(focus exact pdp);(focus (refine pt0_ 0 ?_<;>refine Zf9 1 ?_<;>refine pt0_ 2 ?_<;>(first|refine ZaK 3 ?_|(refine pt2 3 ?_ ?_<;>intro hg<;>(refine ZaK 3 ?_)))<;>(first|refine pg7_ 4 ?_|(refine pt2 4 ?_ ?_<;>intro hg<;>(refine pg7_ 4 ?_)))<;>(first|refine pg0_ 5 ?_|(refine pt2 5 ?_ ?_<;>intro hg<;>(refine pg0_ 5 ?_)))<;>(first|refine ZcA 6 ?_|(refine pt2 6 ?_ ?_<;>intro hg<;>(refine ZcA 6 ?_)))<;>refine pt2_ 7 ?_<;>refine pt0_ 8 ?_<;>(first|refine ZaK 9 ?_|(refine pt2 9 ?_ ?_<;>intro hg<;>(refine ZaK 9 ?_)))<;>(first|refine pg7_ 10 ?_|(refine pt2 10 ?_ ?_<;>intro hg<;>(refine pg7_ 10 ?_)))<;>(first|refine pg0_ 11 ?_|(refine pt2 11 ?_ ?_<;>intro hg<;>(refine pg0_ 11 ?_)))<;>(first|refine pg7_ 13 ?_|(refine pt2 13 ?_ ?_<;>intro hg<;>(refine pg7_ 13 ?_)))<;>(refine pq1 12 ?_)<;>(first|(refine pog ?_;(first|(refine Zab (n:=20) ?_;(first|refine Zaa hgt ?_|refine Zaa hws ?_|refine Zc5 hrp ?_))|refine pk20 ?_))|refine pon ?_|(refine po2 ?_ ?_<;>intro hg<;>(first|(refine pog ?_;(first|(refine Zab (n:=20) ?_;(first|refine Zaa hgt ?_|refine Zaa hws ?_|refine Zc5 hrp ?_))|refine pk20 ?_))|refine pon ?_)))<;>(refine pq1 14 ?_)<;>(first|(refine pog ?_;(first|(refine Zab (n:=20) ?_;(first|refine Zaa hgt ?_|refine Zaa hws ?_|refine Zc5 hrp ?_))|refine pk20 ?_))|refine pon ?_|(refine po2 ?_ ?_<;>intro hg<;>(first|(refine pog ?_;(first|(refine Zab (n:=20) ?_;(first|refine Zaa hgt ?_|refine Zaa hws ?_|refine Zc5 hrp ?_))|refine pk20 ?_))|refine pon ?_)))<;>(first|refine ZcA 15 ?_|(refine pt2 15 ?_ ?_<;>intro hg<;>(refine ZcA 15 ?_)))<;>refine pt2_ 16 ?_<;>(refine ZaI ?_;exact ZaJ)))))|fail)
  exact ⟨k + 1,by show k + 1≤n + 1;omega,by show n + 1 - (k + 1) < n + 1 - k;omega,by (exact ple)⟩
 ·have htl:=ZuV p 0 hpl.tracks.1 _ rfl
  have hrp:=ZjW p p.base.tick hpl hp.2 _ rfl
  have e:Zbx p p.base.tick=some p.base:=by
   have:=ZsR hd (k:=p.base.tick.toNat) (by omega)
   rwa [show ((p.base.tick.toNat:Nat):Int)=p.base.tick by omega,ZtL hd] at this
  rw [e] at hrp
  dsimp only [Option.getD_some,Option.isSome_some] at hrp
  have hsw:=Ztv p.base (Zee hpp.base).2.2
  have hgb:=ZuA p.sums n (by omega)
  obtain ⟨_,_,_,_,g5,_,_⟩:=ZuO hd (k:=n) (by omega)
  have g6:=ZtL hd
  rw [show p.base.tick.toNat=n by omega] at g6
  rw [g5,g6,show ((n:Nat):Int)=p.base.tick from hn.symm] at hgb
  by_cases ht:ZsW p 0
  ·rw [show Zt6 p 0=⟨p.me,p.now.tick,0,Zt0 p 0,Zsn p.tracks,p.base.tick,Zgm p.base,0,0⟩ from if_pos ht,decide_eq_true ht] at htl
   dsimp only at htl
   generalize Zgm p.base=ws at htl hgb
   repeat' (first|refine pa ?_|(refine pb ?_ ?_<;>intro hg)|(refine Zab (n:=20) ?_;(first|refine Zaa hsw ?_|refine Zaa hgb ?_|refine Zc5 htl ?_|refine Zc5 hrp ?_))|refine po ?_|(refine L53d1 ?_)|fail)
   refine pfin ?_
   exact .inl (congrArg T.bool (decide_eq_true (by omega)))
  ·rw [decide_eq_false ht] at htl
   generalize Zt6 p 0=x at htl
   repeat' (first|refine pa ?_|(refine pb ?_ ?_<;>intro hg)|(refine Zab (n:=20) ?_;(first|refine Zaa hsw ?_|refine Zaa hgb ?_|refine Zc5 htl ?_|refine Zc5 hrp ?_))|refine po ?_|(refine L53d1 ?_)|fail)
   refine pfin ?_
   exact .inl (congrArg T.bool (decide_eq_true (by omega)))
theorem ZuU (xs:(TY.slice 5 (.int .u8)).V):AC Tryz.prog 7 [TY.arg (.slice 5 (.int .u8)) xs] (.t (.bool true)):=Zuz xs
open Go.ChangeShapes Go.WideShapes
theorem Ztt (os:Os) (started:os.Started) (H:Type) (enc:TypeId×Value→H) :
  ReturnsInHanded {} Tryz.checked os 7 .any (Rows.fnSumsSpec.pre6 enc Tryz.prog Tryz.f7 Rows.fnSumsRow.domain false) (Rows.fnSumsSpec.post enc Tryz.prog Tryz.f7 false true false false):=by
 refine ZjB (C:=Tryz.checked) Tryz.own started (by kernel_rfl) Tryz.func7 Tryz.laidOut (by kernel_rfl) (tb:=4) rfl Tryz.underlying4 rfl ?_
  (ChangeSpec.witness6 (enc:=enc) (C:=Tryz.checked) false ⟨#[],#[.slice none 0 0],[]⟩ 8 (by kernel_rfl) (by kernel_rfl) (by kernel_rfl) (by kernel_rfl)) ?_
 ·intro W vs ds ps hA
  have hA:DataW.TrodAll enc Tryz.prog W 0 (fun _=>true) true Tryz.f7.params.toList vs ds ps:=hA
  rw [Tryz.params7] at hA
  obtain ⟨v0,vs0,d0,ds0,p0,q0,rfl,rfl,rfl,h0,r0⟩:=trodAll_cons hA
  obtain ⟨rfl,rfl,rfl⟩:=trodAll_nil r0
  rfl
 ·intro W base args ds p hok0 hA hlt
  have hA:DataW.TrodAll enc Tryz.prog W 0 (fun _=>true) true Tryz.f7.params.toList args.toList ds p:=hA
  have hok:∀ (j:Nat) t v,Tryz.f7.params[j]?=some t→args[j]?=some v→Value.okWide Tryz.prog W .any base t v:=hok0
  clear hok0
  rw [Tryz.params7] at hA hok
  obtain ⟨args⟩:=args
  obtain ⟨v0,vs0,d0,ds0,p0,q0,hv0,rfl,rfl,h0,r0⟩:=trodAll_cons hA
  have hv0:args=v0 :: vs0:=hv0;subst hv0
  obtain ⟨rfl,rfl,rfl⟩:=trodAll_nil r0
  obtain ⟨cs0,y0,g0,rfl⟩:=Ze3 (T:=(.slice 5 (.int .u8))) (by kernel_rfl) (hok 0 _ _ rfl rfl) h0
  clear hok hA hlt
  exact ZoH (ZuU y0) (Ab.Pw.cons (ZiB (t:=(.slice 5 (.int .u8))) (by kernel_rfl) g0 rfl) Ab.Pw.nil)
theorem Zts:joinedFacts Tryz.prog 7 Tryz.f7 Rows.fnSumsSpec Rows.fnSumsRow=true:=by
 simp only [joinedFacts,Bool.and_eq_true]
 exact ⟨⟨⟨⟨⟨⟨⟨⟨⟨⟨⟨⟨⟨⟨⟨⟨⟨⟨⟨⟨⟨⟨⟨⟨⟨⟨⟨⟨⟨⟨⟨(by as_aux_lemma=>kernel_rfl),(by as_aux_lemma=>kernel_rfl)⟩,(by as_aux_lemma=>kernel_rfl)⟩,(by as_aux_lemma=>kernel_rfl)⟩,(by as_aux_lemma=>kernel_rfl)⟩,(by as_aux_lemma=>kernel_rfl)⟩,(by as_aux_lemma=>kernel_rfl)⟩,(by as_aux_lemma=>kernel_rfl)⟩,(by as_aux_lemma=>kernel_rfl)⟩,(by as_aux_lemma=>kernel_rfl)⟩,(by as_aux_lemma=>kernel_rfl)⟩,(by as_aux_lemma=>kernel_rfl)⟩,(by as_aux_lemma=>kernel_rfl)⟩,(by as_aux_lemma=>kernel_rfl)⟩,(by as_aux_lemma=>kernel_rfl)⟩,(by as_aux_lemma=>kernel_rfl)⟩,(by as_aux_lemma=>kernel_rfl)⟩,(by as_aux_lemma=>kernel_rfl)⟩,(by as_aux_lemma=>kernel_rfl)⟩,(by as_aux_lemma=>kernel_rfl)⟩,(by as_aux_lemma=>kernel_rfl)⟩,(by as_aux_lemma=>kernel_rfl)⟩,(by as_aux_lemma=>kernel_rfl)⟩,(by as_aux_lemma=>kernel_rfl)⟩,(by as_aux_lemma=>kernel_rfl)⟩,Tryz.mayEnter⟩,(ZhJ Tryz.liftsFinal)⟩,(Zl5 Tryz.make)⟩,(by as_aux_lemma=>kernel_rfl)⟩,(by as_aux_lemma=>kernel_rfl)⟩,(by as_aux_lemma=>kernel_rfl)⟩,(by as_aux_lemma=>kernel_rfl)⟩
theorem FnSums_holds:Rows.FnSumsSaid :=
 OpenClaim.holds_of_wide 7 Tryz.f7 rfl rfl rfl rfl rfl rfl rfl ⟨rfl,rfl,rfl,rfl,rfl⟩ rfl rfl rfl rfl rfl (by kernel_rfl) Tryz.func7 Zts
  (of_decide_eq_true (by kernel_rfl)) (by unfold Func.isWrapper;first|(rw [if_pos (by decide +kernel)];kernel_rfl)|(rw [if_neg (by decide +kernel)];exact ⟨rfl,rfl⟩))
  (fun os started H enc _=>Ztt os started H enc)
end Go.Proofs.YthfaongbpdnlnaaGreat
