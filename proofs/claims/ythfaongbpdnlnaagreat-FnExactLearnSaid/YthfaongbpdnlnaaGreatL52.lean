/- What is proved: the statement on Learn: the program's function answers as the reference's, whatever the arguments.
   Conditions: none. -/
import Derived.Test.YthfaongbpdnlnaaGreatT89
import Derived.Test.YthfaongbpdnlnaaGreatT61e
import Derived.Test.YthfaongbpdnlnaaGreatT103ub
import Derived.Test.YthfaongbpdnlnaaGreatT103uc
namespace Go.Proofs.YthfaongbpdnlnaaGreat
set_option maxHeartbeats 4000000
set_option maxRecDepth 100000
set_option linter.unusedSimpArgs false
set_option linter.unusedVariables false
open Go.RowKit Ab
def Zvd:TY:=.struct (.pair (.int .i64) (.pair (.int .i64) (.pair (.int .i64) (.pair (.slice 3 (.int .i64)) (.pair (.slice 3 (.int .i64)) (.pair (.int .i64) (.pair (.int .i64) (.pair (.int .i64) (.pair (.int .i64) .unit)))))))))
theorem k6_in {p:Pr} (h:Zeq p):0≤k6 p 1∧k6 p 1≤4611686018427387:=by
 obtain ⟨s1,s2⟩:=h.sums_
 obtain ⟨b1,b2,b3⟩:=h.base
 obtain ⟨n1,n2,n3⟩:=h.now
 have hsv:=h.saves
 have hsm:=h.sums
 unfold k6 k3 k2
 omega
theorem Zu7 (p:Pr) (x:PkV):AC Tryz.prog 13 [.agg [.t (.int .i64 p.me),.t (.int .i64 p.delay),.t (.int .i64 p.ahead),.t (.int .i64 p.seed),.t (.lst false 175 (p.tracks.map trackC)),.t (.lst true 9 (Zai p.base.level)),.t (.int .i64 p.base.tick),.t (.int .i64 p.base.seed),.t (ints 3 p.base.scores),.t (.lst true 204 (p.base.bodies.map bodyC)),.t (.lst true 9 (Zai p.now.level)),.t (.int .i64 p.now.tick),.t (.int .i64 p.now.seed),.t (ints 3 p.now.scores),.t (.lst true 204 (p.now.bodies.map bodyC)),.t (.lst false 27 (p.used.map trackC)),.t (.lst true 179 (p.saves.map saveC)),.t (ints 3 p.sums),.t (.int .i64 p.ft),.t (.int .i64 p.fp),.t (.int .i64 p.fa),.t (.int .i64 p.rolls),.t (.int .i64 p.again)],.agg [.t (.int .i64 x.fr),.t (.int .i64 x.tk),.t (.int .i64 x.fs),.t (ints 3 x.ins),.t (ints 3 x.acks),.t (.int .i64 x.stk),.t (.int .i64 x.sm),.t (.int .i64 x.tm),.t (.int .i64 x.ec)]] (.t (.bool true)):=by
 obtain ⟨r,hsz,hpl⟩:=Zvg p
 by_cases h:r < 0
 ·refine AC.go Tryz.func13 Tryz.ntmps13 fun B W hr=>?_
  repeat' (first|refine pa ?_|(refine pb ?_ ?_<;>intro hg)|(refine Zab (n:=20) ?_;(first|refine Zaa hsz ?_))|refine po ?_|fail)
  all_goals refine pfin ?_
  all_goals exact .inl rfl
 obtain ⟨⟨hpl,hdl⟩,hrl⟩:=hpl h
 have hsp:=Zvc x.fr x.tk x.fs x.stk x.sm x.tm x.ec x.ins x.acks r (by omega)
 by_cases hx:szPL x.ins x.acks r < 0
 ·refine AC.go Tryz.func13 Tryz.ntmps13 fun B W hr=>?_
  repeat' (first|refine pa ?_|(refine pb ?_ ?_<;>intro hg)|(refine Zab (n:=20) ?_;(first|refine Zaa hsz ?_|refine Zaa hsp ?_))|refine po ?_|fail)
  all_goals refine pfin ?_
  all_goals exact .inl rfl
 obtain ⟨x1,x2⟩:=Zvm hrl hx
 have hto:=Zgs p hpl
 have htp:=Zvf x.fr x.tk x.fs x.stk x.sm x.tm x.ec x.ins x.acks x1 x2
 have he:=ZeV p
 have hep:=Zve x.fr x.tk x.fs x.stk x.sm x.tm x.ec x.ins x.acks
 have hmp:=Zdv p hpl 1 (by omega) (by omega)
 obtain ⟨hk1,hk3⟩:=k6_in hpl
 have hmk:=Zva x.fr x.tk x.fs x.stk x.sm x.tm x.ec (Zak x.ins) (Zak x.acks) x.ins.length x.acks.length (k6 p 1) (Zal _) (Zgj _) (Zal _) (Zgj _) (by omega) (by omega)
 have hs:=Zsu p x hpl hdl _ rfl
 have hi:=Zvi p x hpl hdl _ rfl
 have hvl:Zeq ((Zsj p x).getD p):=Zvj p x hpl
 generalize (Zsj p x).getD p=v at hs hi hvl
 generalize (Zsj p x).isSome=b at hs hi
 have he2:=ZeV v
 have hm2:=Zdv v hvl 1 (by omega) (by omega)
 have hh:=Zj1 v hvl 1 (by omega) (by omega)
 obtain ⟨hk2,_⟩:=k6_in hvl
 refine AC.go Tryz.func13 Tryz.ntmps13 fun B W hr=>?_
 repeat' (first|refine pa ?_|(refine pb ?_ ?_<;>intro hg)|(refine Zab (n:=20) ?_;(first|refine Zaa hsz ?_|refine Zaa hsp ?_|refine Zaa he ?_|refine Zaa he2 ?_|refine Zaa hep ?_|refine Zaa hh ?_|refine pz3 hto ?_|refine pz3 htp ?_|refine pz3 hs ?_|refine pz3 hi ?_|refine Zca (m:=[(0,_,_),(1,_,_),(3,_,_),(4,_,_),(5,_,_),(6,_,_),(7,_,_),(8,_,_),(9,_,_),(10,_,_)]) (hmp) ?_|refine Zca (m:=[(0,_,_),(1,_,_),(3,_,_),(4,_,_),(5,_,_),(6,_,_),(7,_,_),(8,_,_),(9,_,_),(10,_,_)]) (hm2) ?_|refine Zca (m:=[(0,_,_),(1,_,_)]) (hmk) ?_))|refine po ?_|((apply pdq 5;(focus exact pdp);(focus ((apply pct 5 15 1;(focus (intro hd2;(apply pct 5 7 2;(focus (intro hd1;(refine pt7_ 0 ?_<;>refine pt7_ 1 ?_<;>(refine pq1 2 ?_;(focus ((refine pop ?_;(refine Zab (n:=20) ?_;(first|refine pz3 hto ?_)))<;>(exact ptm hd1)))))));(case main=>((refine pq1 3 ?_;(focus ((refine pop ?_;(refine Zab (n:=20) ?_;(first|refine Zaa he ?_|refine Zaa he2 ?_)))<;>(exact ptm hd2)))))))));(case main=>(refine Zf9 4 ?_<;>(refine ZaI ?_;exact ZaJ))))))))|((apply pdq 5;(focus exact pdp);(focus ((apply pct 5 15 1;(focus (intro hd2;(apply pct 5 7 2;(focus (intro hd1;(refine pt7_ 0 ?_<;>refine pt7_ 1 ?_<;>(refine pq1 2 ?_;(focus ((refine pop ?_;(refine Zab (n:=20) ?_;(first|refine pz3 htp ?_)))<;>(exact ptm hd1)))))));(case main=>((refine pq1 3 ?_;(focus ((refine pop ?_;(refine Zab (n:=20) ?_;(first|refine Zaa hep ?_)))<;>(exact ptm hd2)))))))));(case main=>(refine Zf9 4 ?_<;>(refine ZaI ?_;exact ZaJ))))))))|(refine pdr [2,3] 11 (by (apply pct 11 1023 1;(focus (intro hd9;(apply pct 11 287 5;(focus (intro hd8;(apply pct 11 511 2;(focus (intro hd7;(apply pct 11 271 6;(focus (intro hd6;(apply pct 11 31 6;(focus (intro hd5;(apply pct 11 263 7;(focus (intro hd4;(apply pct 11 15 7;(focus (intro hd3;(apply pct 11 261 8;(focus (intro hd2;(apply pct 11 7 8;(focus (intro hd1;(refine pt7_ 0 ?_<;>refine pt7_ 2 ?_<;>(refine pq2 1 8 ?_ ?_;(focus ((refine pop ?_;(refine Zab (n:=20) ?_;(first|refine pz3 hto ?_)))<;>(exact ptm hd1)));(focus ((refine pop ?_;refine pk3 ?_)<;>(exact ptm hd2)))))));(case main=>((refine pq2 3 8 ?_ ?_;(focus ((refine pop ?_;(refine Zab (n:=20) ?_;(first|refine pz3 htp ?_)))<;>(exact ptm hd3)));(focus ((refine pop ?_;refine pk3 ?_)<;>(exact ptm hd4)))))))));(case main=>((refine pq1 1 ?_;(focus ((refine pop ?_;(refine Zab (n:=20) ?_;(first|refine pz3 hto ?_)))<;>(exact ptw hd4)))))))));(case main=>((refine pq2 4 8 ?_ ?_;(focus ((refine pop ?_;(refine Zab (n:=20) ?_;(first|refine pz3 hi ?_)))<;>(exact ptm hd5)));(focus ((refine pop ?_;refine pk3 ?_)<;>(exact ptm hd6)))))))));(case main=>((refine pq1 3 ?_;(focus ((refine pop ?_;(refine Zab (n:=20) ?_;(first|refine pz3 htp ?_)))<;>(exact ptw hd6)))))))));(case main=>(refine pt0_ 5 ?_<;>refine Zes 6 ?_<;>refine Zes 7 ?_<;>(refine pq1 8 ?_;(focus ((refine pop ?_;refine pk3 ?_)<;>(exact ptm hd7)))))))));(case main=>((refine pq1 4 ?_;(focus ((refine pop ?_;(refine Zab (n:=20) ?_;(first|refine pz3 hi ?_)))<;>(exact ptm hd8)))))))));(case main=>((refine pq1 9 ?_;(focus ((refine pop ?_;refine pk8 ?_)<;>(exact ptm hd9)))))))));(case main=>(refine pt0_ 5 ?_<;>refine Zes 6 ?_<;>refine Zes 7 ?_<;>(refine pq1 9 ?_;(focus ((refine pop ?_;refine pk8 ?_)<;>(exact ptw hd9)))))))));(case main=>(refine pt1_ 10 ?_<;>(refine ZaI ?_;exact ZaJ))))) ?_)|(refine pdr [2,3] 11 (by (apply pct 11 1023 1;(focus (intro hd9;(apply pct 11 287 5;(focus (intro hd8;(apply pct 11 511 2;(focus (intro hd7;(apply pct 11 271 6;(focus (intro hd6;(apply pct 11 31 6;(focus (intro hd5;(apply pct 11 263 7;(focus (intro hd4;(apply pct 11 15 7;(focus (intro hd3;(apply pct 11 261 8;(focus (intro hd2;(apply pct 11 7 8;(focus (intro hd1;(refine pt7_ 0 ?_<;>refine pt7_ 2 ?_<;>(refine pq2 1 8 ?_ ?_;(focus ((refine pop ?_;(refine Zab (n:=20) ?_;(first|refine pz3 hto ?_)))<;>(exact ptm hd1)));(focus ((refine pop ?_;refine pk3 ?_)<;>(exact ptm hd2)))))));(case main=>((refine pq2 3 8 ?_ ?_;(focus ((refine pop ?_;(refine Zab (n:=20) ?_;(first|refine pz3 htp ?_)))<;>(exact ptm hd3)));(focus ((refine pop ?_;refine pk3 ?_)<;>(exact ptm hd4)))))))));(case main=>((refine pq1 1 ?_;(focus ((refine pop ?_;(refine Zab (n:=20) ?_;(first|refine pz3 hto ?_)))<;>(exact ptw hd4)))))))));(case main=>((refine pq2 4 8 ?_ ?_;(focus ((refine pop ?_;(refine Zab (n:=20) ?_;(first|refine pz3 hs ?_)))<;>(exact ptm hd5)));(focus ((refine pop ?_;refine pk3 ?_)<;>(exact ptm hd6)))))))));(case main=>((refine pq1 3 ?_;(focus ((refine pop ?_;(refine Zab (n:=20) ?_;(first|refine pz3 htp ?_)))<;>(exact ptw hd6)))))))));(case main=>(refine pt0_ 5 ?_<;>refine Zes 6 ?_<;>refine Zes 7 ?_<;>(refine pq1 8 ?_;(focus ((refine pop ?_;refine pk3 ?_)<;>(exact ptm hd7)))))))));(case main=>((refine pq1 4 ?_;(focus ((refine pop ?_;(refine Zab (n:=20) ?_;(first|refine pz3 hs ?_)))<;>(exact ptm hd8)))))))));(case main=>((refine pq1 9 ?_;(focus ((refine pop ?_;refine pk8 ?_)<;>(exact ptm hd9)))))))));(case main=>(refine pt0_ 5 ?_<;>refine Zes 6 ?_<;>refine Zes 7 ?_<;>(refine pq1 9 ?_;(focus ((refine pop ?_;refine pk8 ?_)<;>(exact ptw hd9)))))))));(case main=>(refine pt1_ 10 ?_<;>(refine ZaI ?_;exact ZaJ))))) ?_)|fail)
 all_goals refine pfin ?_
 all_goals exact .inl rfl
theorem Zu8 (x:Zf7.V) (y:Zvd.V):AC Tryz.prog 13 [TY.arg Zf7 x,TY.arg Zvd y] (.t (.bool true)):=by
 obtain ⟨p,hp⟩:=Zmb x
 rw [hp]
 obtain ⟨fr,tk,fs,ins,acks,stk,sm,tm,ec,_⟩:=y
 exact Zu7 p ⟨fr,tk,fs,ins,acks,stk,sm,tm,ec⟩
open Go.ChangeShapes Go.WideShapes
theorem Zu6 (os:Os) (started:os.Started) (H:Type) (enc:TypeId×Value→H) :
  ReturnsInHanded {} Tryz.checked os 13 .any (Rows.fnExactLearnSpec.pre6 enc Tryz.prog Tryz.f13 Rows.fnExactLearnRow.domain false) (Rows.fnExactLearnSpec.post enc Tryz.prog Tryz.f13 false true false false):=by
 refine ZjB (C:=Tryz.checked) Tryz.own started (by kernel_rfl) Tryz.func13 Tryz.laidOut (by kernel_rfl) (tb:=4) rfl Tryz.underlying4 rfl ?_
  (ChangeSpec.witness6 (enc:=enc) (C:=Tryz.checked) false ⟨#[],#[.agg #[.int .i64 0,.int .i64 0,.int .i64 0,.int .i64 0,.slice none 0 0,.slice none 0 0,.int .i64 0,.int .i64 0,.slice none 0 0,.slice none 0 0,.slice none 0 0,.int .i64 0,.int .i64 0,.slice none 0 0,.slice none 0 0,.slice none 0 0,.slice none 0 0,.slice none 0 0,.int .i64 0,.int .i64 0,.int .i64 0,.int .i64 0,.int .i64 0],.agg #[.int .i64 0,.int .i64 0,.int .i64 0,.slice none 0 0,.slice none 0 0,.int .i64 0,.int .i64 0,.int .i64 0,.int .i64 0]],[]⟩ 8 (by kernel_rfl) (by kernel_rfl) (by kernel_rfl) (by kernel_rfl)) ?_
 ·intro W vs ds ps hA
  have hA:DataW.TrodAll enc Tryz.prog W 0 (fun _=>true) true Tryz.f13.params.toList vs ds ps:=hA
  rw [Tryz.params13] at hA
  obtain ⟨v0,vs0,d0,ds0,p0,q0,rfl,rfl,rfl,h0,r0⟩:=trodAll_cons hA
  obtain ⟨v1,vs1,d1,ds1,p1,q1,rfl,rfl,rfl,h1,r1⟩:=trodAll_cons r0
  obtain ⟨rfl,rfl,rfl⟩:=trodAll_nil r1
  rfl
 ·intro W base args ds p hok0 hA hlt
  have hA:DataW.TrodAll enc Tryz.prog W 0 (fun _=>true) true Tryz.f13.params.toList args.toList ds p:=hA
  have hok:∀ (j:Nat) t v,Tryz.f13.params[j]?=some t→args[j]?=some v→Value.okWide Tryz.prog W .any base t v:=hok0
  clear hok0
  rw [Tryz.params13] at hA hok
  obtain ⟨args⟩:=args
  obtain ⟨v0,vs0,d0,ds0,p0,q0,hv0,rfl,rfl,h0,r0⟩:=trodAll_cons hA
  have hv0:args=v0 :: vs0:=hv0;subst hv0
  obtain ⟨v1,vs1,d1,ds1,p1,q1,hv1,rfl,rfl,h1,r1⟩:=trodAll_cons r0
  have hv1:vs0=v1 :: vs1:=hv1;subst hv1
  obtain ⟨rfl,rfl,rfl⟩:=trodAll_nil r1
  obtain ⟨cs0,y0,g0,rfl⟩:=Ze3 (T:=Zf7) (by kernel_rfl) (hok 0 _ _ rfl rfl) h0
  obtain ⟨cs1,y1,g1,rfl⟩:=Ze3 (T:=Zvd) (by kernel_rfl) (hok 1 _ _ rfl rfl) h1
  clear hok hA hlt
  exact ZoH (Zu8 y0 y1) (Ab.Pw.cons (ZiB (t:=Zf7) (by kernel_rfl) g0 rfl) (Ab.Pw.cons (ZiB (t:=Zvd) (by kernel_rfl) g1 rfl) Ab.Pw.nil))
theorem Zu5:joinedFacts Tryz.prog 13 Tryz.f13 Rows.fnExactLearnSpec Rows.fnExactLearnRow=true:=by
 simp only [joinedFacts,Bool.and_eq_true]
 exact ⟨⟨⟨⟨⟨⟨⟨⟨⟨⟨⟨⟨⟨⟨⟨⟨⟨⟨⟨⟨⟨⟨⟨⟨⟨⟨⟨⟨⟨⟨⟨(by as_aux_lemma=>kernel_rfl),(by as_aux_lemma=>kernel_rfl)⟩,(by as_aux_lemma=>kernel_rfl)⟩,(by as_aux_lemma=>kernel_rfl)⟩,(by as_aux_lemma=>kernel_rfl)⟩,(by as_aux_lemma=>kernel_rfl)⟩,(by as_aux_lemma=>kernel_rfl)⟩,(by as_aux_lemma=>kernel_rfl)⟩,(by as_aux_lemma=>kernel_rfl)⟩,(by as_aux_lemma=>kernel_rfl)⟩,(by as_aux_lemma=>kernel_rfl)⟩,(by as_aux_lemma=>kernel_rfl)⟩,(by as_aux_lemma=>kernel_rfl)⟩,(by as_aux_lemma=>kernel_rfl)⟩,(by as_aux_lemma=>kernel_rfl)⟩,(by as_aux_lemma=>kernel_rfl)⟩,(by as_aux_lemma=>kernel_rfl)⟩,(by as_aux_lemma=>kernel_rfl)⟩,(by as_aux_lemma=>kernel_rfl)⟩,(by as_aux_lemma=>kernel_rfl)⟩,(by as_aux_lemma=>kernel_rfl)⟩,(by as_aux_lemma=>kernel_rfl)⟩,(by as_aux_lemma=>kernel_rfl)⟩,(by as_aux_lemma=>kernel_rfl)⟩,(by as_aux_lemma=>kernel_rfl)⟩,Tryz.mayEnter⟩,(ZhJ Tryz.liftsFinal)⟩,(Zl5 Tryz.make)⟩,(by as_aux_lemma=>kernel_rfl)⟩,(by as_aux_lemma=>kernel_rfl)⟩,(by as_aux_lemma=>kernel_rfl)⟩,(by as_aux_lemma=>kernel_rfl)⟩
theorem FnExactLearn_holds:Rows.FnExactLearnSaid :=
 OpenClaim.holds_of_wide 13 Tryz.f13 rfl rfl rfl rfl rfl rfl rfl ⟨rfl,rfl,rfl,rfl,rfl⟩ rfl rfl rfl rfl rfl (by kernel_rfl) Tryz.func13 Zu5
  (of_decide_eq_true (by kernel_rfl)) (by unfold Func.isWrapper;first|(rw [if_pos (by decide +kernel)];kernel_rfl)|(rw [if_neg (by decide +kernel)];exact ⟨rfl,rfl⟩))
  (fun os started H enc _=>Zu6 os started H enc)
end Go.Proofs.YthfaongbpdnlnaaGreat
